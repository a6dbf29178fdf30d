import PyProof.Rows.All
import Wide.All
import OpenK.AllK
import Wide.FinOn
import HandS.ForMost
import HandS.ForExc
import HandS.IsInst
import HandS.Conv
import HandS.Zip
import HandS.TupAny
import HandS.TupMul
import HandS.CallSlots
import HandS.HotCalls
import HandS.ExcIs
import KE.SortCalls
import KE.DataCmp
import KE.KDictKeyed
import HandS.Wide
import KE.DataMinMax
import HandS.Deep
import HandS.RepeatKit
import HandS.TupSets
import KE.KRevSl
import HandS.Strs
import KE.KDictCopyH
import HandS.SetKeys
import KE.KDictDisplayH
import HandS.Iter
import KE.GoesEnum
import KE.SortData
import PySem.Challenge.RW_unseenways_k37_whole_spare_ones_go
set_option Elab.async false
set_option linter.all false
set_option maxRecDepth 100000
set_option maxHeartbeats 4000000
/-! PDa: plain data over the abstract heap: what a value stands for, who may change it. -/
namespace PD
open PySem PySem.Spec PyProof.Rows L2

abbrev D := PyData
abbrev Env := List (Option D)
abbrev Bs := Program × World × PySem.W.Frag
abbrev Wr := Addr → Prop
def lim : Nat := 1000000
theorem lim_size {n : Nat} (h : n ≤ lim) : n ≤ sizeLine := Nat.le_trans h (by decide)
theorem lim_lt {n : Nat} (h : n < lim) : n < sizeLine := Nat.lt_of_lt_of_le h (by decide)

/-- a dict whose keys are tuples, by its entries -/
abbrev TEnt := NestedKey × Addr × V
abbrev TEs (ks : List TEnt) (xs : List (NestedKey × Addr × Value)) : Prop := Paired (fun (p : TEnt) (q : NestedKey × Addr × Value) => p.1 = q.1 ∧ p.2.1 = q.2.1 ∧ RelV p.2.2 q.2.2) ks xs
def TD (B : Bs) (a : Addr) (ks : List TEnt) : HO := .ext fun h => (a == sysModules) = false ∧ ∃ xs o es ep, TEs ks xs ∧ h.get? a = some o ∧ o.ExactDict ∧ o.data = .dict es ep ∧ es.toList = xs.map (entryOfKey (nestedKind B.1 B.2.1)) ∧ (xs.map (·.1)).Nodup

def keyD : Key → D
  | .inl i => .int i
  | .inr x => .str x

mutual
/-- data as a key of a dict -/
def nkey : D → Option NestedKey
  | .none => some .none
  | .bool b => some (.num (if b then 1 else 0))
  | .int i => some (.num i)
  | .str x => some (.text x)
  | .tuple ds => (nkeys ds).map .tup
  | .list _ => none
  | .dict _ => none
def nkeys : List D → Option (List NestedKey)
  | [] => some []
  | d :: ds => (nkey d).bind fun k => (nkeys ds).map fun ks => k :: ks
end

/-- a list that the written part knows -/
def KL (B : Bs) (a : Addr) (xs : List V) : Prop := ∃ (its : List Value) (n : Nat), B.2.2.lookup a = some { cls := .type "list", data := .seq its.toArray n } ∧ xs.length ≤ sizeLine ∧ Vals xs its
/-- a list that is read and stays -/
def Rl (B : Bs) (H : Hp) (W : Wr) (a : Addr) (xs : List V) : Prop := (Rd H a (.lst xs) ∧ ¬ W a) ∨ KL B a xs
/-- a list that is read -/
def Rm (B : Bs) (H : Hp) (a : Addr) (xs : List V) : Prop := Rd H a (.lst xs) ∨ KL B a xs
theorem KL.sq {B : Bs} {H : Hp} {a : Addr} {xs : List V} (h : KL B a xs) : SqL B.2.2 H a xs := by
  obtain ⟨its, n, e, l, r⟩ := h
  exact .inr ⟨_, its.toArray, n, e, rfl, rfl, rfl, by simpa [← r.length] using l, by simpa using r⟩
theorem Rm.sq {B : Bs} {H : Hp} {a : Addr} {xs : List V} (h : Rm B H a xs) : SqL B.2.2 H a xs := h.elim .inl KL.sq
theorem Rl.rm {B : Bs} {H : Hp} {W : Wr} {a : Addr} {xs : List V} (h : Rl B H W a xs) : Rm B H a xs := h.imp And.left id
mutual
/-- the value stands for the data; none of its changeable parts is in W -/
inductive Rp (B : Bs) (H : Hp) (W : Wr) : V → D → Prop
  | non : Rp B H W .non .none
  | bl (b : Bool) : Rp B H W (.bl b) (.bool b)
  | int (i : Int) : Rp B H W (.int i) (.int i)
  | str {x : Str} : x.length ≤ lim → Rp B H W (.str x) (.str x)
  | lst {a : Addr} {xs : List V} {ds : List D} : Rl B H W a xs → ds.length ≤ lim → RpAll B H W xs ds → Rp B H W (.ref a) (.list ds)
  | tup {a : Addr} {xs : List V} {ds : List D} : Rd H a (.tup xs) → ¬ W a → ds.length ≤ lim → RpAll B H W xs ds → Rp B H W (.ref a) (.tuple ds)
  | dK {a : Addr} {kvs : List (Key × V)} {es : List (D × D)} : Rd H a (.dK kvs) → ¬ W a → es.length ≤ lim → RpK B H W kvs es → Rp B H W (.ref a) (.dict es)
  | dT {a : Addr} {ks : List TEnt} {es : List (D × D)} : es ≠ [] → Rd H a (TD B a ks) → ¬ W a → es.length ≤ lim → RpT B H W ks es → Rp B H W (.ref a) (.dict es)
inductive RpAll (B : Bs) (H : Hp) (W : Wr) : List V → List D → Prop
  | nil : RpAll B H W [] []
  | cons {v : V} {vs : List V} {d : D} {ds : List D} : Rp B H W v d → RpAll B H W vs ds → RpAll B H W (v :: vs) (d :: ds)
inductive RpK (B : Bs) (H : Hp) (W : Wr) : List (Key × V) → List (D × D) → Prop
  | nil : RpK B H W [] []
  | cons {k : Key} {v : V} {vs : List (Key × V)} {d : D} {ds : List (D × D)} : Rp B H W v d → RpK B H W vs ds → RpK B H W ((k, v) :: vs) ((keyD k, d) :: ds)
inductive RpT (B : Bs) (H : Hp) (W : Wr) : List TEnt → List (D × D) → Prop
  | nil : RpT B H W [] []
  | cons {k : NestedKey} {b : Addr} {v : V} {vs : List TEnt} {c d : D} {ds : List (D × D)} : nkey c = some k → k.depth ≤ 8 → Rp B H W (.ref b) c → Rp B H W v d → RpT B H W vs ds → RpT B H W ((k, b, v) :: vs) ((c, d) :: ds)
end

/-- all that stood stands -/
abbrev Ext (H H' : Hp) : Prop := ∀ a o, H a = some o → H' a = some o

section
variable {B : Bs} {H H' : Hp} {W W' : Wr}
theorem rd_keep {a : Addr} {u : HO} (h : Rd H a u) (k : ∀ o, H a = some o → H' a = some o) : Rd H' a u := by
  rcases h with h | ⟨o, h⟩
  · exact .inl (k _ h)
  · exact .inr ⟨o, k _ h⟩
theorem rd_some {a : Addr} {u : HO} (h : Rd H a u) : ∃ o, H a = some o := by
  rcases h with h | ⟨o, h⟩
  · exact ⟨_, h⟩
  · exact ⟨_, h⟩
theorem nw (k : ∀ a, W' a → W a ∨ H a = none) {a : Addr} (n : ¬ W a) (h : ∃ o, H a = some o) : ¬ W' a := fun q => by
  obtain ⟨o, e⟩ := h
  rcases k a q with z | z
  · exact n z
  · rw [e] at z; cases z

/-- not locked -/
def Nz : HO → Prop
  | .frz _ _ => False
  | _ => True
mutual
theorem Rp.keepR (k1 : ∀ a u, Nz u → Rd H a u → ¬ W a → Rd H' a u) (k2 : ∀ a, W' a → W a ∨ H a = none) : ∀ (d : D) {v : V}, Rp B H W v d → Rp B H' W' v d
  | .none, _, h => by cases h; exact .non
  | .bool _, _, h => by cases h; exact .bl _
  | .int _, _, h => by cases h; exact .int _
  | .str _, _, h => by cases h with | str z => exact .str z
  | .list ds, _, h => by
    cases h with
    | lst r l q => exact .lst (r.imp (fun ⟨r, n⟩ => ⟨k1 _ _ True.intro r n, nw k2 n (rd_some r)⟩) id) l (RpAll.keepR k1 k2 ds q)
  | .tuple ds, _, h => by
    cases h with
    | tup r n l q => exact .tup (k1 _ _ True.intro r n) (nw k2 n (rd_some r)) l (RpAll.keepR k1 k2 ds q)
  | .dict es, _, h => by
    cases h with
    | dK r n l q => exact .dK (k1 _ _ True.intro r n) (nw k2 n (rd_some r)) l (RpK.keepR k1 k2 es q)
    | dT z r n l q => exact .dT z (k1 _ _ True.intro r n) (nw k2 n (rd_some r)) l (RpT.keepR k1 k2 es q)
theorem RpAll.keepR (k1 : ∀ a u, Nz u → Rd H a u → ¬ W a → Rd H' a u) (k2 : ∀ a, W' a → W a ∨ H a = none) : ∀ (ds : List D) {vs : List V}, RpAll B H W vs ds → RpAll B H' W' vs ds
  | [], _, h => by cases h; exact .nil
  | d :: ds, _, h => by
    cases h with
    | cons a b => exact .cons (Rp.keepR k1 k2 d a) (RpAll.keepR k1 k2 ds b)
theorem RpK.keepR (k1 : ∀ a u, Nz u → Rd H a u → ¬ W a → Rd H' a u) (k2 : ∀ a, W' a → W a ∨ H a = none) : ∀ (ds : List (D × D)) {vs : List (Key × V)}, RpK B H W vs ds → RpK B H' W' vs ds
  | [], _, h => by cases h; exact .nil
  | (_, d) :: ds, _, h => by
    cases h with
    | cons a b => exact .cons (Rp.keepR k1 k2 d a) (RpK.keepR k1 k2 ds b)
theorem RpT.keepR (k1 : ∀ a u, Nz u → Rd H a u → ¬ W a → Rd H' a u) (k2 : ∀ a, W' a → W a ∨ H a = none) : ∀ (ds : List (D × D)) {vs : List TEnt}, RpT B H W vs ds → RpT B H' W' vs ds
  | [], _, h => by cases h; exact .nil
  | (c, d) :: ds, _, h => by
    cases h with
    | cons e dp a b t => exact .cons e dp (Rp.keepR k1 k2 c a) (Rp.keepR k1 k2 d b) (RpT.keepR k1 k2 ds t)
end
theorem Rp.keep (k1 : ∀ a o, H a = some o → ¬ W a → H' a = some o) (k2 : ∀ a, W' a → W a ∨ H a = none) (d : D) {v : V} (h : Rp B H W v d) : Rp B H' W' v d := Rp.keepR (fun a u _ r n => rd_keep r fun o e => k1 a o e n) k2 d h
theorem RpAll.keep (k1 : ∀ a o, H a = some o → ¬ W a → H' a = some o) (k2 : ∀ a, W' a → W a ∨ H a = none) (d : List D) {v : List V} (h : RpAll B H W v d) : RpAll B H' W' v d := RpAll.keepR (fun a u _ r n => rd_keep r fun o e => k1 a o e n) k2 d h
theorem RpK.keep (k1 : ∀ a o, H a = some o → ¬ W a → H' a = some o) (k2 : ∀ a, W' a → W a ∨ H a = none) (d : List (D × D)) {v : List (Key × V)} (h : RpK B H W v d) : RpK B H' W' v d := RpK.keepR (fun a u _ r n => rd_keep r fun o e => k1 a o e n) k2 d h
theorem RpT.keep (k1 : ∀ a o, H a = some o → ¬ W a → H' a = some o) (k2 : ∀ a, W' a → W a ∨ H a = none) (d : List (D × D)) {v : List TEnt} (h : RpT B H W v d) : RpT B H' W' v d := RpT.keepR (fun a u _ r n => rd_keep r fun o e => k1 a o e n) k2 d h
theorem Rp.anti {v : V} {d : D} (k : ∀ a, W' a → W a) (h : Rp B H W v d) : Rp B H W' v d := Rp.keep (fun _ _ e _ => e) (fun a q => .inl (k a q)) d h
theorem RpAll.anti {v : List V} {d : List D} (k : ∀ a, W' a → W a) (h : RpAll B H W v d) : RpAll B H W' v d := RpAll.keep (fun _ _ e _ => e) (fun a q => .inl (k a q)) d h
theorem Rp.ext {v : V} {d : D} (k : Ext H H') (h : Rp B H W v d) : Rp B H' W v d := Rp.keep (fun _ _ e _ => k _ _ e) (fun a q => .inl q) d h
theorem RpAll.ext {v : List V} {d : List D} (k : Ext H H') (h : RpAll B H W v d) : RpAll B H' W v d := RpAll.keep (fun _ _ e _ => k _ _ e) (fun a q => .inl q) d h

theorem RpAll.length : ∀ {ds : List D} {vs : List V}, RpAll B H W vs ds → vs.length = ds.length
  | [], _, h => by cases h; rfl
  | _ :: _, _, h => by cases h with | cons _ b => simp [RpAll.length b]
theorem RpAll.append : ∀ {ds es : List D} {vs ws : List V}, RpAll B H W vs ds → RpAll B H W ws es → RpAll B H W (vs ++ ws) (ds ++ es)
  | [], _, _, _, h, h' => by cases h; exact h'
  | _ :: _, _, _, _, h, h' => by cases h with | cons a b => exact .cons a (RpAll.append b h')
theorem RpAll.one {v : V} {d : D} (h : Rp B H W v d) : RpAll B H W [v] [d] := .cons h .nil
theorem RpAll.get : ∀ {ds : List D} {vs : List V} {i : Nat} {d : D}, RpAll B H W vs ds → ds[i]? = some d → ∃ v, vs[i]? = some v ∧ Rp B H W v d
  | [], _, _, _, h, e => by simp at e
  | _ :: _, _, 0, _, h, e => by
    cases h with
    | cons a b => simp at e; subst e; exact ⟨_, rfl, a⟩
  | _ :: _, _, i + 1, _, h, e => by
    cases h with
    | cons a b =>
      obtain ⟨v, q, r⟩ := RpAll.get (i := i) b (by simpa using e)
      exact ⟨v, by simpa using q, r⟩
theorem RpAll.getV : ∀ {ds : List D} {vs : List V} {i : Nat} {v : V}, RpAll B H W vs ds → vs[i]? = some v → ∃ d, ds[i]? = some d ∧ Rp B H W v d
  | [], _, _, _, h, e => by cases h; simp at e
  | _ :: _, _, 0, _, h, e => by
    cases h with
    | cons a b => simp at e; subst e; exact ⟨_, rfl, a⟩
  | _ :: _, _, i + 1, _, h, e => by
    cases h with
    | cons a b =>
      obtain ⟨v, q, r⟩ := RpAll.getV (i := i) b (by simpa using e)
      exact ⟨v, by simpa using q, r⟩
theorem RpAll.take : ∀ {ds : List D} {vs : List V} (n : Nat), RpAll B H W vs ds → RpAll B H W (vs.take n) (ds.take n)
  | _, _, 0, _ => by simpa using .nil
  | [], _, _ + 1, h => by cases h; exact .nil
  | _ :: _, _, n + 1, h => by cases h with | cons a b => exact .cons a (RpAll.take n b)
theorem RpAll.drop : ∀ {ds : List D} {vs : List V} (n : Nat), RpAll B H W vs ds → RpAll B H W (vs.drop n) (ds.drop n)
  | _, _, 0, h => h
  | [], _, _ + 1, h => by cases h; exact .nil
  | _ :: _, _, n + 1, h => by cases h with | cons a b => exact RpAll.drop n b
theorem RpAll.set : ∀ {ds : List D} {vs : List V} (n : Nat) {v : V} {d : D}, RpAll B H W vs ds → Rp B H W v d → RpAll B H W (vs.set n v) (ds.set n d)
  | [], _, _, _, _, h, _ => by cases h; exact .nil
  | _ :: _, _, 0, _, _, h, r => by cases h with | cons a b => exact .cons r b
  | _ :: _, _, n + 1, _, _, h, r => by cases h with | cons a b => exact .cons a (RpAll.set n b r)
theorem RpAll.eraseIdx : ∀ {ds : List D} {vs : List V} (n : Nat), RpAll B H W vs ds → RpAll B H W (vs.eraseIdx n) (ds.eraseIdx n)
  | [], _, _, h => by cases h; simpa using .nil
  | _ :: _, _, 0, h => by cases h with | cons a b => simpa using b
  | _ :: _, _, n + 1, h => by cases h with | cons a b => simpa using .cons a (RpAll.eraseIdx n b)
theorem RpAll.reverse {ds : List D} {vs : List V} (h : RpAll B H W vs ds) : RpAll B H W vs.reverse ds.reverse := by
  induction ds generalizing vs with
  | nil => cases h; exact .nil
  | cons d ds ih =>
    cases h with
    | cons a b => simpa using (ih b).append (.one a)
theorem RpAll.dropLast {ds : List D} {vs : List V} (h : RpAll B H W vs ds) : RpAll B H W vs.dropLast ds.dropLast := by
  rw [List.dropLast_eq_take, List.dropLast_eq_take, h.length]
  exact h.take _
theorem RpAll.rep {ds : List D} {vs : List V} (h : RpAll B H W vs ds) : ∀ k : Nat, RpAll B H W (List.replicate k vs).flatten (List.replicate k ds).flatten
  | 0 => by simpa using .nil
  | k + 1 => by
    rw [List.replicate_succ, List.replicate_succ, List.flatten_cons, List.flatten_cons]
    exact h.append (RpAll.rep h k)
end

/-! ### ownership -/
/-- fz: frozen; else a changeable thing whose children are .. -/
inductive T where
  | fz | lst (t : T) | dct (t : T)

mutual
/-- data none of whose parts can be changed -/
def imm : D → Bool
  | .none => true
  | .bool _ => true
  | .int _ => true
  | .str _ => true
  | .tuple ds => imms ds
  | .list _ => false
  | .dict _ => false
def imms : List D → Bool
  | [] => true
  | d :: ds => imm d && imms ds
end

mutual
/-- the value stands for the data, owned as t says; Fl: the owned parts -/
inductive Own (B : Bs) (H : Hp) (W : Wr) : T → V → D → List Addr → Prop
  | fz {v : V} {d : D} : Rp B H W v d → Own B H W .fz v d []
  | imm {t : T} {v : V} {d : D} : imm d = true → Rp B H W v d → Own B H W t v d []
  | lst {t : T} {a : Addr} {xs : List V} {ds : List D} {Fl : List Addr} : H a = some (.lst xs) → ds.length ≤ lim → OwnAll B H W t xs ds Fl → Own B H W (.lst t) (.ref a) (.list ds) (a :: Fl)
  | dK {t : T} {a : Addr} {kvs : List (Key × V)} {es : List (D × D)} {Fl : List Addr} : H a = some (.dK kvs) → es.length ≤ lim → OwnK B H W t kvs es Fl → Own B H W (.dct t) (.ref a) (.dict es) (a :: Fl)
  | dT {t : T} {a : Addr} {ks : List TEnt} {es : List (D × D)} {Fl : List Addr} : es ≠ [] → H a = some (TD B a ks) → es.length ≤ lim → OwnT B H W t ks es Fl → Own B H W (.dct t) (.ref a) (.dict es) (a :: Fl)
inductive OwnAll (B : Bs) (H : Hp) (W : Wr) : T → List V → List D → List Addr → Prop
  | nil {t : T} : OwnAll B H W t [] [] []
  | cons {t : T} {v : V} {vs : List V} {d : D} {ds : List D} {F1 F2 : List Addr} : Own B H W t v d F1 → OwnAll B H W t vs ds F2 → OwnAll B H W t (v :: vs) (d :: ds) (F1 ++ F2)
inductive OwnK (B : Bs) (H : Hp) (W : Wr) : T → List (Key × V) → List (D × D) → List Addr → Prop
  | nil {t : T} : OwnK B H W t [] [] []
  | cons {t : T} {k : Key} {v : V} {vs : List (Key × V)} {d : D} {ds : List (D × D)} {F1 F2 : List Addr} : Own B H W t v d F1 → OwnK B H W t vs ds F2 → OwnK B H W t ((k, v) :: vs) ((keyD k, d) :: ds) (F1 ++ F2)
inductive OwnT (B : Bs) (H : Hp) (W : Wr) : T → List TEnt → List (D × D) → List Addr → Prop
  | nil {t : T} : OwnT B H W t [] [] []
  | cons {t : T} {k : NestedKey} {b : Addr} {v : V} {vs : List TEnt} {c d : D} {ds : List (D × D)} {F1 F2 : List Addr} : nkey c = some k → k.depth ≤ 8 → Rp B H W (.ref b) c → Own B H W t v d F1 → OwnT B H W t vs ds F2 → OwnT B H W t ((k, b, v) :: vs) ((c, d) :: ds) (F1 ++ F2)
end

end PD

set_option Elab.async false
set_option linter.all false
set_option maxRecDepth 100000
set_option maxHeartbeats 4000000
/-! PDb: ownership, environments, what a piece of code is worth. -/
namespace PD
open PySem PySem.Spec PyProof.Rows L2

section
variable {B : Bs} {H H' : Hp} {W W' : Wr}
mutual
theorem Own.keepR (kR : ∀ a u, Nz u → Rd H a u → ¬ W a → Rd H' a u) (k2 : ∀ a, W' a → W a ∨ H a = none) : ∀ (d : D) {t : T} {v : V} {Fl : List Addr}, (∀ a o, H a = some o → a ∈ Fl → H' a = some o) → Own B H W t v d Fl → Own B H' W' t v d Fl
  | .none, _, _, _, k1, h => by
    cases h with
    | fz r => exact .fz (Rp.keepR kR k2 _ r)
    | imm i r => exact .imm i (Rp.keepR kR k2 _ r)
  | .bool _, _, _, _, k1, h => by
    cases h with
    | fz r => exact .fz (Rp.keepR kR k2 _ r)
    | imm i r => exact .imm i (Rp.keepR kR k2 _ r)
  | .int _, _, _, _, k1, h => by
    cases h with
    | fz r => exact .fz (Rp.keepR kR k2 _ r)
    | imm i r => exact .imm i (Rp.keepR kR k2 _ r)
  | .str _, _, _, _, k1, h => by
    cases h with
    | fz r => exact .fz (Rp.keepR kR k2 _ r)
    | imm i r => exact .imm i (Rp.keepR kR k2 _ r)
  | .tuple _, _, _, _, k1, h => by
    cases h with
    | fz r => exact .fz (Rp.keepR kR k2 _ r)
    | imm i r => exact .imm i (Rp.keepR kR k2 _ r)
  | .list ds, _, _, _, k1, h => by
    cases h with
    | fz r => exact .fz (Rp.keepR kR k2 _ r)
    | imm i r => exact .imm i (Rp.keepR kR k2 _ r)
    | lst e l q => exact .lst (k1 _ _ e List.mem_cons_self) l (OwnAll.keepR kR k2 ds (fun a o e z => k1 a o e (List.mem_cons_of_mem _ z)) q)
  | .dict es, _, _, _, k1, h => by
    cases h with
    | fz r => exact .fz (Rp.keepR kR k2 _ r)
    | imm i r => exact .imm i (Rp.keepR kR k2 _ r)
    | dK e l q => exact .dK (k1 _ _ e List.mem_cons_self) l (OwnK.keepR kR k2 es (fun a o e z => k1 a o e (List.mem_cons_of_mem _ z)) q)
    | dT z e l q => exact .dT z (k1 _ _ e List.mem_cons_self) l (OwnT.keepR kR k2 es (fun a o e z => k1 a o e (List.mem_cons_of_mem _ z)) q)
theorem OwnAll.keepR (kR : ∀ a u, Nz u → Rd H a u → ¬ W a → Rd H' a u) (k2 : ∀ a, W' a → W a ∨ H a = none) : ∀ (ds : List D) {t : T} {vs : List V} {Fl : List Addr}, (∀ a o, H a = some o → a ∈ Fl → H' a = some o) → OwnAll B H W t vs ds Fl → OwnAll B H' W' t vs ds Fl
  | [], _, _, _, _, h => by cases h; exact .nil
  | d :: ds, _, _, _, k1, h => by
    cases h with
    | cons a b => exact .cons (Own.keepR kR k2 d (fun a o e z => k1 a o e (List.mem_append_left _ z)) a) (OwnAll.keepR kR k2 ds (fun a o e z => k1 a o e (List.mem_append_right _ z)) b)
theorem OwnK.keepR (kR : ∀ a u, Nz u → Rd H a u → ¬ W a → Rd H' a u) (k2 : ∀ a, W' a → W a ∨ H a = none) : ∀ (ds : List (D × D)) {t : T} {vs : List (Key × V)} {Fl : List Addr}, (∀ a o, H a = some o → a ∈ Fl → H' a = some o) → OwnK B H W t vs ds Fl → OwnK B H' W' t vs ds Fl
  | [], _, _, _, _, h => by cases h; exact .nil
  | (_, d) :: ds, _, _, _, k1, h => by
    cases h with
    | cons a b => exact .cons (Own.keepR kR k2 d (fun a o e z => k1 a o e (List.mem_append_left _ z)) a) (OwnK.keepR kR k2 ds (fun a o e z => k1 a o e (List.mem_append_right _ z)) b)
theorem OwnT.keepR (kR : ∀ a u, Nz u → Rd H a u → ¬ W a → Rd H' a u) (k2 : ∀ a, W' a → W a ∨ H a = none) : ∀ (ds : List (D × D)) {t : T} {vs : List TEnt} {Fl : List Addr}, (∀ a o, H a = some o → a ∈ Fl → H' a = some o) → OwnT B H W t vs ds Fl → OwnT B H' W' t vs ds Fl
  | [], _, _, _, _, h => by cases h; exact .nil
  | (c, d) :: ds, _, _, _, k1, h => by
    cases h with
    | cons e dp r1 a b => exact .cons e dp (Rp.keepR kR k2 c r1) (Own.keepR kR k2 d (fun a o e z => k1 a o e (List.mem_append_left _ z)) a) (OwnT.keepR kR k2 ds (fun a o e z => k1 a o e (List.mem_append_right _ z)) b)
end
theorem Own.keep (k2 : ∀ a, W' a → W a ∨ H a = none) (d : D) {t : T} {v : V} {Fl : List Addr} (k1 : ∀ a o, H a = some o → (a ∈ Fl ∨ ¬ W a) → H' a = some o) (h : Own B H W t v d Fl) : Own B H' W' t v d Fl := Own.keepR (fun a u _ r n => rd_keep r fun o e => k1 a o e (.inr n)) k2 d (fun a o e z => k1 a o e (.inl z)) h
/-! what is owned, frozen -/
mutual
theorem Own.rp (k : ∀ a, W' a → W a) : ∀ (d : D) {t : T} {v : V} {Fl : List Addr}, (∀ a ∈ Fl, ¬ W' a) → Own B H W t v d Fl → Rp B H W' v d
  | .none, _, _, _, _, h => by
    cases h with
    | fz r => exact Rp.anti k r
    | imm _ r => exact Rp.anti k r
  | .bool _, _, _, _, _, h => by
    cases h with
    | fz r => exact Rp.anti k r
    | imm _ r => exact Rp.anti k r
  | .int _, _, _, _, _, h => by
    cases h with
    | fz r => exact Rp.anti k r
    | imm _ r => exact Rp.anti k r
  | .str _, _, _, _, _, h => by
    cases h with
    | fz r => exact Rp.anti k r
    | imm _ r => exact Rp.anti k r
  | .tuple _, _, _, _, _, h => by
    cases h with
    | fz r => exact Rp.anti k r
    | imm _ r => exact Rp.anti k r
  | .list ds, _, _, _, n, h => by
    cases h with
    | fz r => exact Rp.anti k r
    | imm _ r => exact Rp.anti k r
    | lst e l q => exact .lst (.inl ⟨.inl e, n _ List.mem_cons_self⟩) l (OwnAll.rp k ds (fun a z => n a (List.mem_cons_of_mem _ z)) q)
  | .dict es, _, _, _, n, h => by
    cases h with
    | fz r => exact Rp.anti k r
    | imm _ r => exact Rp.anti k r
    | dK e l q => exact .dK (.inl e) (n _ List.mem_cons_self) l (OwnK.rp k es (fun a z => n a (List.mem_cons_of_mem _ z)) q)
    | dT z e l q => exact .dT z (.inl e) (n _ List.mem_cons_self) l (OwnT.rp k es (fun a z => n a (List.mem_cons_of_mem _ z)) q)
theorem OwnAll.rp (k : ∀ a, W' a → W a) : ∀ (ds : List D) {t : T} {vs : List V} {Fl : List Addr}, (∀ a ∈ Fl, ¬ W' a) → OwnAll B H W t vs ds Fl → RpAll B H W' vs ds
  | [], _, _, _, _, h => by cases h; exact .nil
  | d :: ds, _, _, _, n, h => by
    cases h with
    | cons a b => exact .cons (Own.rp k d (fun a z => n a (List.mem_append_left _ z)) a) (OwnAll.rp k ds (fun a z => n a (List.mem_append_right _ z)) b)
theorem OwnK.rp (k : ∀ a, W' a → W a) : ∀ (ds : List (D × D)) {t : T} {vs : List (Key × V)} {Fl : List Addr}, (∀ a ∈ Fl, ¬ W' a) → OwnK B H W t vs ds Fl → RpK B H W' vs ds
  | [], _, _, _, _, h => by cases h; exact .nil
  | (_, d) :: ds, _, _, _, n, h => by
    cases h with
    | cons a b => exact .cons (Own.rp k d (fun a z => n a (List.mem_append_left _ z)) a) (OwnK.rp k ds (fun a z => n a (List.mem_append_right _ z)) b)
theorem OwnT.rp (k : ∀ a, W' a → W a) : ∀ (ds : List (D × D)) {t : T} {vs : List TEnt} {Fl : List Addr}, (∀ a ∈ Fl, ¬ W' a) → OwnT B H W t vs ds Fl → RpT B H W' vs ds
  | [], _, _, _, _, h => by cases h; exact .nil
  | (c, d) :: ds, _, _, _, n, h => by
    cases h with
    | cons e dp r1 a b => exact .cons e dp (Rp.anti k r1) (Own.rp k d (fun a z => n a (List.mem_append_left _ z)) a) (OwnT.rp k ds (fun a z => n a (List.mem_append_right _ z)) b)
end
theorem Own.fz_inv {v : V} {d : D} {Fl : List Addr} (h : Own B H W .fz v d Fl) : Fl = [] ∧ Rp B H W v d := by
  cases h with
  | fz r => exact ⟨rfl, r⟩
  | imm _ r => exact ⟨rfl, r⟩
theorem OwnAll.fz_inv : ∀ {ds : List D} {vs : List V} {Fl : List Addr}, OwnAll B H W .fz vs ds Fl → Fl = [] ∧ RpAll B H W vs ds
  | [], _, _, h => by cases h; exact ⟨rfl, .nil⟩
  | d :: ds, _, _, h => by
    cases h with
    | cons a b =>
      obtain ⟨rfl, r⟩ := Own.fz_inv a
      obtain ⟨rfl, q⟩ := OwnAll.fz_inv b
      exact ⟨rfl, .cons r q⟩
theorem OwnAll.of_rp : ∀ {ds : List D} {vs : List V}, RpAll B H W vs ds → OwnAll B H W .fz vs ds []
  | [], _, h => by cases h; exact .nil
  | d :: ds, _, h => by
    cases h with
    | cons a b => exact .cons (F1 := []) (F2 := []) (.fz a) (OwnAll.of_rp b)
/-- a list whose items are frozen -/
theorem Own.lst_inv {v : V} {ds : List D} {Fl : List Addr} (h : Own B H W (.lst .fz) v (.list ds) Fl) : ∃ a xs, v = .ref a ∧ Fl = [a] ∧ H a = some (.lst xs) ∧ ds.length ≤ lim ∧ RpAll B H W xs ds := by
  cases h with
  | imm i _ => simp [PD.imm] at i
  | lst e l q =>
    obtain ⟨rfl, r⟩ := OwnAll.fz_inv q
    exact ⟨_, _, rfl, rfl, e, l, r⟩
theorem Own.lst_of {a : Addr} {xs : List V} {ds : List D} (e : H a = some (.lst xs)) (l : ds.length ≤ lim) (r : RpAll B H W xs ds) : Own B H W (.lst .fz) (.ref a) (.list ds) [a] := .lst e l (.of_rp r)
end

/-! ### environments -/
def updF (F : Nat → List Addr) (i : Nat) (Fl : List Addr) : Nat → List Addr := fun j => if j = i then Fl else F j
theorem updF_same {F : Nat → List Addr} {i : Nat} {Fl : List Addr} : updF F i Fl i = Fl := by unfold updF; rw [if_pos rfl]
theorem updF_ne {F : Nat → List Addr} {i j : Nat} {Fl : List Addr} (h : j ≠ i) : updF F i Fl j = F j := by unfold updF; rw [if_neg h]
def Wof (F : Nat → List Addr) (O : Wr) : Wr := fun a => (∃ i, a ∈ F i) ∨ O a
structure Sg where
  B : Bs
  Γ : Nat → T
  O : Wr
  pin : Nat → Option V
  cl : Nat → Value
def Sg.add (G : Sg) (Fl : List Addr) : Sg := { G with O := fun a => G.O a ∨ a ∈ Fl }
theorem Sg.add_nil (G : Sg) : G.add [] = G := by
  obtain ⟨b, g, o, p, c⟩ := G
  unfold Sg.add
  congr 1
  funext a
  simp
structure EnvOk (G : Sg) (σ : L2.St) (ρ : Env) (H : Hp) (F : Nat → List Addr) : Prop where
  len : σ.length = ρ.length
  slot : ∀ (i : Nat) d, ρ[i]? = some (some d) → ∃ v, σ[i]? = some (some v) ∧ Own G.B H (Wof F G.O) (G.Γ i) v d (F i)
  nd : ∀ i, (F i).Nodup
  dj : ∀ i j a, a ∈ F i → a ∈ F j → i = j
  og : ∀ i a, a ∈ F i → ¬ G.O a
  hv : ∀ i a, a ∈ F i → ∃ o, H a = some o
  oh : ∀ a, G.O a → ∃ o, H a = some o
  pn : ∀ (i : Nat) v, G.pin i = some v → σ[i]? = some (some v)
  ff : ∀ i, G.Γ i = .fz → F i = []
structure Evo (H : Hp) (F : Nat → List Addr) (H' : Hp) (F' : Nat → List Addr) (Fl : List Addr) : Prop where
  keep : ∀ a o, H a = some o → (∀ i, a ∉ F i) → H' a = some o
  new : ∀ a, ((∃ i, a ∈ F' i) ∨ a ∈ Fl) → (∃ j, a ∈ F j) ∨ H a = none

section
variable {G : Sg} {σ : L2.St} {ρ : Env} {H H' H'' : Hp} {F F' F'' : Nat → List Addr} {Fl Fl' : List Addr}
theorem Evo.refl : Evo H F H F [] := ⟨fun _ _ e _ => e, fun a z => .inl (z.elim id fun q => nomatch q)⟩
theorem Evo.of_ext (k : Ext H H') : Evo H F H' F [] := ⟨fun a o e _ => k a o e, fun a z => .inl (z.elim id fun q => nomatch q)⟩
theorem Evo.trans (a : Evo H F H' F' []) (b : Evo H' F' H'' F'' Fl) : Evo H F H'' F'' Fl where
  keep := fun x o e n => b.keep x o (a.keep x o e n) fun i hi => by
    rcases a.new x (.inl ⟨i, hi⟩) with ⟨j, hj⟩ | z
    · exact n j hj
    · rw [e] at z; cases z
  new := fun x z => by
    rcases b.new x z with q | q
    · exact a.new x (.inl q)
    · cases e : H x with
      | none => exact .inr rfl
      | some o =>
        refine .inl (Classical.byContradiction fun n => ?_)
        rw [a.keep x o e fun i hi => n ⟨i, hi⟩] at q
        cases q
theorem Evo.drop (a : Evo H F H' F' Fl) : Evo H F H' F' [] := ⟨a.keep, fun x z => a.new x (z.elim .inl fun q => nomatch q)⟩
theorem Evo.k1 (e : Evo H F H' F' Fl) {O : Wr} : ∀ a o, H a = some o → ¬ Wof F O a → H' a = some o := fun a o q n => e.keep a o q fun i hi => n (.inl ⟨i, hi⟩)
theorem Evo.k2 (e : Evo H F H' F' Fl) {O : Wr} : ∀ a, Wof F' (fun a => O a ∨ a ∈ Fl) a → Wof F O a ∨ H a = none := fun a z => by
  rcases z with z | z | z
  · exact (e.new a (.inl z)).imp .inl id
  · exact .inl (.inr z)
  · exact (e.new a (.inr z)).imp .inl id
theorem Evo.k2' (e : Evo H F H' F' Fl) {O : Wr} : ∀ a, Wof F' O a → Wof F O a ∨ H a = none := fun a z => by
  rcases z with z | z
  · exact (e.new a (.inl z)).imp .inl id
  · exact .inl (.inr z)
theorem Rp.evo {B : Bs} {O : Wr} {v : V} {d : D} (r : Rp B H (Wof F O) v d) (e : Evo H F H' F' Fl) : Rp B H' (Wof F' O) v d := Rp.keep e.k1 e.k2' d r
theorem Rp.evoA {B : Bs} {O : Wr} {v : V} {d : D} (r : Rp B H (Wof F O) v d) (e : Evo H F H' F' Fl) : Rp B H' (Wof F' (fun a => O a ∨ a ∈ Fl)) v d := Rp.keep e.k1 e.k2 d r
theorem RpAll.evo {B : Bs} {O : Wr} {v : List V} {d : List D} (r : RpAll B H (Wof F O) v d) (e : Evo H F H' F' Fl) : RpAll B H' (Wof F' O) v d := RpAll.keep e.k1 e.k2' d r
theorem Own.ext {B : Bs} {W : Wr} {t : T} {v : V} {d : D} (k : Ext H H') (h : Own B H W t v d Fl) : Own B H' W t v d Fl := Own.keep (fun a q => .inl q) d (fun a o e _ => k a o e) h
theorem Own.anti {B : Bs} {W W' : Wr} {t : T} {v : V} {d : D} (k : ∀ a, W' a → W a) (h : Own B H W t v d Fl) : Own B H W' t v d Fl := Own.keep (fun a q => .inl (k a q)) d (fun a o e _ => e) h
theorem EnvOk.ext (E : EnvOk G σ ρ H F) (k : Ext H H') : EnvOk G σ ρ H' F where
  len := E.len
  slot := fun i d e => by
    obtain ⟨v, h1, h2⟩ := E.slot i d e
    exact ⟨v, h1, h2.ext k⟩
  nd := E.nd
  dj := E.dj
  og := E.og
  hv := fun i a h => let ⟨o, e⟩ := E.hv i a h; ⟨o, k _ _ e⟩
  oh := fun a h => let ⟨o, e⟩ := E.oh a h; ⟨o, k _ _ e⟩
  pn := E.pn
  ff := E.ff
/-- fewer may be written -/
theorem EnvOk.weak {O' : Wr} (E : EnvOk G σ ρ H F) (k : ∀ a, O' a → G.O a) : EnvOk { G with O := O' } σ ρ H F where
  len := E.len
  slot := fun i d e => by
    obtain ⟨v, h1, h2⟩ := E.slot i d e
    exact ⟨v, h1, h2.anti fun a q => q.imp id (k a)⟩
  nd := E.nd
  dj := E.dj
  og := fun i a h q => E.og i a h (k a q)
  hv := E.hv
  oh := fun a h => E.oh a (k a h)
  pn := E.pn
  ff := E.ff
theorem EnvOk.drop (E : EnvOk (G.add Fl) σ ρ H F) : EnvOk G σ ρ H F := by
  have := E.weak (O' := G.O) fun a h => Or.inl h
  exact this
theorem Wof_none {O : Wr} {p : Addr} (E : EnvOk G σ ρ H F) (hp : H p = none) : ¬ Wof F G.O p := fun z => by
  rcases z with ⟨i, hi⟩ | z
  · obtain ⟨o, e⟩ := E.hv i p hi
    rw [hp] at e; cases e
  · obtain ⟨o, e⟩ := E.oh p z
    rw [hp] at e; cases e
/-- a new thing, owned by none of the slots -/
theorem EnvOk.new {p : Addr} (E : EnvOk G σ ρ H F) (hp : H p = none) (k : Ext H H') (hp' : ∃ o, H' p = some o) : EnvOk (G.add [p]) σ ρ H' F where
  len := E.len
  slot := fun i d e => by
    obtain ⟨v, h1, h2⟩ := E.slot i d e
    refine ⟨v, h1, Own.keep (fun a q => ?_) d (fun a o e _ => k a o e) h2⟩
    rcases q with q | q | q
    · exact .inl (.inl q)
    · exact .inl (.inr q)
    · right
      rw [List.mem_singleton.mp q]
      exact hp
  nd := E.nd
  dj := E.dj
  og := fun i a h q => by
    rcases q with q | q
    · exact E.og i a h q
    · obtain ⟨o, e⟩ := E.hv i a h
      rw [List.mem_singleton.mp q, hp] at e
      cases e
  hv := fun i a h => let ⟨o, e⟩ := E.hv i a h; ⟨o, k _ _ e⟩
  oh := fun a h => by
    rcases h with h | h
    · obtain ⟨o, e⟩ := E.oh a h
      exact ⟨o, k _ _ e⟩
    · rw [List.mem_singleton.mp h]
      exact hp'
  pn := E.pn
  ff := E.ff
theorem Evo.one {p : Addr} (k : Ext H H') (hp : H p = none) : Evo H F H' F [p] := ⟨fun a o e _ => k a o e, fun a z => by
  rcases z with z | z
  · exact .inl z
  · rw [List.mem_singleton.mp z]
    exact .inr hp⟩
theorem get_set_some {α : Type} {l : List α} {i j : Nat} {x y : α} (h : (l.set i x)[j]? = some y) : (j = i ∧ y = x ∧ i < l.length) ∨ (j ≠ i ∧ l[j]? = some y) := by
  by_cases e : j = i
  · subst e
    left
    rw [List.getElem?_set] at h
    simp only [if_true] at h
    split at h
    · rename_i q
      exact ⟨rfl, (Option.some.inj h).symm, q⟩
    · cases h
  · right
    rw [List.getElem?_set_ne (Ne.symm e)] at h
    exact ⟨e, h⟩
/-- a slot is given an owned value -/
theorem EnvOk.setOwn {i : Nat} {v : V} {d : D} (E : EnvOk (G.add Fl) σ ρ H F) (ho : Own G.B H (Wof F (G.add Fl).O) (G.Γ i) v d Fl) (nd : Fl.Nodup) (no : ∀ a ∈ Fl, ¬ G.O a) (hp : G.pin i = none) (hi : i < ρ.length) : EnvOk G (σ.set i (some v)) (ρ.set i (some d)) H (updF F i Fl) := by
  have sub : ∀ a, Wof (updF F i Fl) G.O a → Wof F (G.add Fl).O a := fun a z => by
    rcases z with ⟨j, hj⟩ | z
    · by_cases e : j = i
      · subst e
        rw [updF_same] at hj
        exact .inr (.inr hj)
      · rw [updF_ne e] at hj
        exact .inl ⟨j, hj⟩
    · exact .inr (.inl z)
  have io : ∀ j a, j ≠ i → a ∈ updF F i Fl j → a ∈ F j := fun j a e h => by rwa [updF_ne e] at h
  have inFl : ∀ a, a ∈ updF F i Fl i → a ∈ Fl := fun a h => by rwa [updF_same] at h
  refine ⟨by simpa using E.len, fun j e h => ?_, fun j => ?_, fun j k a hj hk => ?_, fun j a h q => ?_, fun j a h => ?_, fun a h => E.oh a (.inl h), fun j u h => ?_, fun j hj => ?_⟩
  · rcases get_set_some h with ⟨rfl, e1, _⟩ | ⟨ne, h⟩
    · cases e1
      refine ⟨v, List.getElem?_set_self (by rw [E.len]; exact hi), ?_⟩
      rw [updF_same]
      exact ho.anti sub
    · obtain ⟨u, h1, h2⟩ := E.slot j e h
      refine ⟨u, by rw [List.getElem?_set_ne (Ne.symm ne)]; exact h1, ?_⟩
      rw [updF_ne ne]
      exact h2.anti sub
  · by_cases e : j = i
    · subst e; rw [updF_same]; exact nd
    · rw [updF_ne e]; exact E.nd j
  · by_cases e1 : j = i
    · by_cases e2 : k = i
      · rw [e1, e2]
      · subst e1
        exact absurd (Or.inr (inFl a hj)) (E.og k a (io k a e2 hk))
    · by_cases e2 : k = i
      · subst e2
        exact absurd (Or.inr (inFl a hk)) (E.og j a (io j a e1 hj))
      · exact E.dj j k a (io j a e1 hj) (io k a e2 hk)
  · by_cases e : j = i
    · subst e
      exact no a (inFl a h) q
    · exact E.og j a (io j a e h) (.inl q)
  · by_cases e : j = i
    · subst e
      exact E.oh a (.inr (inFl a h))
    · exact E.hv j a (io j a e h)
  · by_cases e : j = i
    · subst e
      rw [hp] at h
      cases h
    · rw [List.getElem?_set_ne (Ne.symm e)]
      exact E.pn j u h
  · by_cases e : j = i
    · subst e
      rw [updF_same]
      rw [hj] at ho
      exact (Own.fz_inv ho).1
    · rw [updF_ne e]
      exact E.ff j hj
end
end PD

set_option Elab.async false
set_option linter.all false
set_option maxRecDepth 100000
set_option maxHeartbeats 4000000
/-! PDc: results, readings, the judgements, generic rules of expressions. -/
namespace PD
open PySem PySem.Spec PyProof.Rows L2

inductive Res (α : Type) where
  | ok (a : α) (ρ : Env)
  | exc (c : Nat) (ρ : Env)
  | err
def bnd {α β : Type} (m : Res α) (k : α → Env → Res β) : Res β := match m with
  | .ok a ρ => k a ρ
  | .exc c ρ => .exc c ρ
  | .err => .err
@[simp] theorem bnd_ok {α β : Type} {a : α} {ρ : Env} {k : α → Env → Res β} : bnd (.ok a ρ) k = k a ρ := id (rfl : bnd (.ok a ρ) k = k a ρ)
@[simp] theorem bnd_exc {α β : Type} {c : Nat} {ρ : Env} {k : α → Env → Res β} : bnd (.exc c ρ) k = .exc c ρ := rfl
@[simp] theorem bnd_err {α β : Type} {k : α → Env → Res β} : bnd .err k = .err := rfl
def ofO {α : Type} (o : Option α) (ρ : Env) : Res α := match o with
  | some a => .ok a ρ
  | none => .err
@[simp] theorem ofO_some {α : Type} {a : α} {ρ : Env} : ofO (some a) ρ = .ok a ρ := rfl
@[simp] theorem ofO_none {α : Type} {ρ : Env} : ofO (none : Option α) ρ = .err := rfl
def slotD (ρ : Env) (i : Nat) : Option D := (ρ[i]?).bind id
/-- an operand: a value, a slot that is only looked at, a slot that is lent -/
inductive Arg where
  | val (d : D)
  | io (j : Nat)
  | lnd (j : Nat)
def deref (ρ : Env) : Arg → Option D
  | .val d => some d
  | .io j => slotD ρ j
  | .lnd _ => none
def derefs (ρ : Env) : List Arg → Option (List D)
  | [] => some []
  | a :: as => (deref ρ a).bind fun d => (derefs ρ as).map fun ds => d :: ds

def FlOk (G : Sg) (Fl : List Addr) : Prop := Fl.Nodup ∧ ∀ a ∈ Fl, ¬ G.O a
theorem FlOk.nil {G : Sg} : FlOk G [] := ⟨List.nodup_nil, fun _ h => nomatch h⟩
def Go (G : Sg) (W : WX) (σ : L2.St) {α : Type} (m : Res α) (H : Hp) (F : Nat → List Addr) (K : α → Env → Hp → (Nat → List Addr) → List Addr → Prop) : Prop :=
  match m with
  | .ok a ρ' => ∀ H' F' Fl, Evo H F H' F' Fl → FlOk G Fl → EnvOk (G.add Fl) σ ρ' H' F' → K a ρ' H' F' Fl
  | .exc c ρ' => ∀ H' F', Evo H F H' F' [] → EnvOk G σ ρ' H' F' → W (G.cl c) none σ H'
  | .err => False
section
variable {G : Sg} {W : WX} {σ : L2.St} {α β : Type} {H H1 H' : Hp} {F F1 F' : Nat → List Addr} {Fl : List Addr} {ρ : Env}
theorem Go.after {m : Res α} {K : α → Env → Hp → (Nat → List Addr) → List Addr → Prop} (g : Go G W σ m H F K) (e : Evo H F H1 F1 []) : Go G W σ m H1 F1 K := by
  cases m with
  | ok a ρ' => exact fun H' F' Fl v f E => g H' F' Fl (e.trans v) f E
  | exc c ρ' => exact fun H' F' v E => g H' F' (e.trans v) E
  | err => exact g
theorem Go.bind {m : Res α} {k : α → Env → Res β} {K : β → Env → Hp → (Nat → List Addr) → List Addr → Prop} (g : Go G W σ (bnd m k) H F K) :
    Go G W σ m H F fun a ρ1 H1 F1 Fl => Evo H F H1 F1 Fl ∧ FlOk G Fl ∧ EnvOk (G.add Fl) σ ρ1 H1 F1 ∧ Go G W σ (k a ρ1) H1 F1 K := by
  cases m with
  | ok a ρ' => exact fun H' F' Fl v f E => ⟨v, f, E, Go.after g v.drop⟩
  | exc c ρ' => exact g
  | err => exact g
theorem Go.imp {m : Res α} {K K' : α → Env → Hp → (Nat → List Addr) → List Addr → Prop} (g : Go G W σ m H F K) (h : ∀ a ρ' H' F' Fl, K a ρ' H' F' Fl → K' a ρ' H' F' Fl) : Go G W σ m H F K' := by
  cases m with
  | ok a ρ' => exact fun H' F' Fl v f E => h _ _ _ _ _ (g H' F' Fl v f E)
  | exc c ρ' => exact g
  | err => exact g

/-! ### readings -/
def tX (G : Sg) (W : WX) (t : T) (f : Env → Res D) : TE := fun σ H Q => ∃ F ρ, EnvOk G σ ρ H F ∧
  Go G W σ (f ρ) H F fun d _ H' F' Fl => ∀ v, Own G.B H' (Wof F' (G.add Fl).O) t v d Fl → Q v H'
def tB (G : Sg) (W : WX) (f : Env → Res Bool) : TT := fun σ H Q => ∃ F ρ, EnvOk G σ ρ H F ∧
  Go G W σ (f ρ) H F fun b _ H' _ Fl => Fl = [] → Q b H'
/-- looked at: the top may be owned by a slot -/
def Rq (B : Bs) (H : Hp) (W : Wr) (v : V) (d : D) : Prop := Rp B H W v d ∨ (∃ a xs ds, v = .ref a ∧ d = .list ds ∧ H a = some (.lst xs) ∧ ds.length ≤ lim ∧ RpAll B H W xs ds) ∨
  (∃ a kvs es, v = .ref a ∧ d = .dict es ∧ H a = some (.dK kvs) ∧ es.length ≤ lim ∧ RpK B H W kvs es) ∨ (∃ a ks es, v = .ref a ∧ d = .dict es ∧ es ≠ [] ∧ H a = some (TD B a ks) ∧ es.length ≤ lim ∧ RpT B H W ks es)
inductive RqAll (B : Bs) (H : Hp) (W : Wr) : List V → List D → Prop
  | nil : RqAll B H W [] []
  | cons {v : V} {vs : List V} {d : D} {ds : List D} : Rq B H W v d → RqAll B H W vs ds → RqAll B H W (v :: vs) (d :: ds)
def plainT : T → Bool
  | .fz => true
  | .lst .fz => true
  | .dct .fz => true
  | _ => false
def ArgOk (G : Sg) (σ : L2.St) (H : Hp) (F : Nat → List Addr) (v : V) : Arg → Prop
  | .val d => Rp G.B H (Wof F G.O) v d
  | .io j => σ[j]? = some (some v) ∧ plainT (G.Γ j) = true
  | .lnd j => σ[j]? = some (some v)
inductive ArgsOk (G : Sg) (σ : L2.St) (H : Hp) (F : Nat → List Addr) : List V → List Arg → Prop
  | nil : ArgsOk G σ H F [] []
  | cons {v : V} {vs : List V} {a : Arg} {as : List Arg} : ArgOk G σ H F v a → ArgsOk G σ H F vs as → ArgsOk G σ H F (v :: vs) (a :: as)
def tO (G : Sg) (W : WX) (f : Env → Res Arg) : TE := fun σ H Q => ∃ F ρ, EnvOk G σ ρ H F ∧
  Go G W σ (f ρ) H F fun a _ H' F' Fl => Fl = [] → ∀ v, ArgOk G σ H' F' v a → Q v H'
def tAs (G : Sg) (W : WX) (f : Env → Res (List Arg)) : TA := fun σ H Q => ∃ F ρ, EnvOk G σ ρ H F ∧
  Go G W σ (f ρ) H F fun as _ H' F' Fl => Fl = [] → ∀ vs, ArgsOk G σ H' F' vs as → Q vs H'
theorem ArgOk.evo {v : V} {a : Arg} (h : ArgOk G σ H F v a) (e : Evo H F H' F' Fl) : ArgOk G σ H' F' v a := by
  cases a with
  | val d => exact Rp.evo h e
  | io j => exact h
  | lnd j => exact h
theorem ArgsOk.evo : ∀ {vs : List V} {as : List Arg}, ArgsOk G σ H F vs as → Evo H F H' F' Fl → ArgsOk G σ H' F' vs as
  | _, _, .nil, _ => .nil
  | _, _, .cons a b, e => .cons (a.evo e) (b.evo e)
theorem Own.rq {B : Bs} {H : Hp} {W : Wr} {t : T} {v : V} {d : D} {Fl : List Addr} (h : Own B H W t v d Fl) (ht : t = .fz ∨ t = .lst .fz ∨ t = .dct .fz) : Rq B H W v d := by
  cases h with
  | fz r => exact .inl r
  | imm _ r => exact .inl r
  | lst e l q =>
    rcases ht with ht | ht | ht <;> cases ht
    obtain ⟨_, r⟩ := OwnAll.fz_inv q
    exact .inr (.inl ⟨_, _, _, rfl, rfl, e, l, r⟩)
  | dK e l q =>
    rcases ht with ht | ht | ht <;> cases ht
    refine .inr (.inr (.inl ⟨_, _, _, rfl, rfl, e, l, ?_⟩))
    clear e l
    rename_i kvs es Fl
    induction es generalizing kvs Fl with
    | nil => cases q; exact .nil
    | cons x es ih =>
      cases q with
      | cons a b => exact .cons (Own.fz_inv a).2 (ih b)
  | dT z e l q =>
    rcases ht with ht | ht | ht <;> cases ht
    refine .inr (.inr (.inr ⟨_, _, _, rfl, rfl, z, e, l, ?_⟩))
    clear e l z
    rename_i kvs es Fl
    induction es generalizing kvs Fl with
    | nil => cases q; exact .nil
    | cons x es ih =>
      cases q with
      | cons e1 e0 e2 a b => exact .cons e1 e0 e2 (Own.fz_inv a).2 (ih b)
theorem plainT_cases {t : T} (h : plainT t = true) : t = .fz ∨ t = .lst .fz ∨ t = .dct .fz := by
  cases t with
  | fz => exact .inl rfl
  | lst t => cases t <;> first | exact .inr (.inl rfl) | cases h
  | dct t => cases t <;> first | exact .inr (.inr rfl) | cases h
theorem slotD_some {ρ : Env} {i : Nat} {d : D} (h : slotD ρ i = some d) : ρ[i]? = some (some d) := by
  unfold slotD at h
  cases e : ρ[i]? with
  | none => rw [e] at h; cases h
  | some o =>
    rw [e] at h
    cases o with
    | none => cases h
    | some x => cases h; rfl
theorem ArgOk.rq {v : V} {a : Arg} {d : D} (h : ArgOk G σ H F v a) (E : EnvOk G σ ρ H F) (e : deref ρ a = some d) : Rq G.B H (Wof F G.O) v d := by
  cases a with
  | val x => cases e; exact .inl h
  | io j =>
    obtain ⟨u, h1, h2⟩ := E.slot j d (slotD_some e)
    obtain ⟨h', p⟩ := h
    rw [h'] at h1
    cases h1
    exact h2.rq (plainT_cases p)
  | lnd j => cases e
theorem ArgsOk.rq : ∀ {vs : List V} {as : List Arg} {ds : List D}, ArgsOk G σ H F vs as → EnvOk G σ ρ H F → derefs ρ as = some ds → RqAll G.B H (Wof F G.O) vs ds
  | _, [], ds, h, _, e => by
    cases h
    have e : some [] = some ds := e
    cases e
    exact .nil
  | _, a :: as, ds, h, E, e => by
    cases h with
    | cons h1 h2 =>
      unfold derefs at e
      cases e1 : deref ρ a with
      | none => rw [e1] at e; cases e
      | some d =>
        rw [e1] at e
        cases e2 : derefs ρ as with
        | none => rw [e2] at e; cases e
        | some es =>
          rw [e2] at e
          cases e
          exact .cons (h1.rq E e1) (h2.rq E e2)
end

/-! ### the judgements -/
def BOf (X : Cx) : Bs := (X.prog, X.w, X.K)
abbrev DX (X : Cx) (G : Sg) (W : WX) (t : T) (e : Expr) (f : Env → Res D) : Prop := PE X e (tX G W t f)
abbrev DO (X : Cx) (G : Sg) (W : WX) (e : Expr) (f : Env → Res Arg) : Prop := PE X e (tO G W f)
abbrev DT (X : Cx) (G : Sg) (W : WX) (e : Expr) (f : Env → Res Bool) : Prop := PT X e (tB G W f)
abbrev DW (X : Cx) (G : Sg) (W : WX) (e : Expr) (f : Env → Res Bool) : Prop := PW X e (tB G W f)
abbrev DA (X : Cx) (G : Sg) (W : WX) (es : List Expr) (f : Env → Res (List Arg)) : Prop := PA X es (tAs G W f)

theorem PE.imp {X : Cx} {e : Expr} {t t' : TE} (h : PE X e t) (i : ∀ σ H Q, t' σ H Q → t σ H Q) : PE X e t' := ⟨fun pins s σ H Q I w => h.run pins s σ H Q I (i σ H Q w)⟩
theorem PT.imp {X : Cx} {e : Expr} {t t' : TT} (h : PT X e t) (i : ∀ σ H Q, t' σ H Q → t σ H Q) : PT X e t' := ⟨fun pins s σ H Q I w => h.run pins s σ H Q I (i σ H Q w)⟩
theorem PW.imp {X : Cx} {e : Expr} {t t' : TT} (h : PW X e t) (i : ∀ σ H Q, t' σ H Q → t σ H Q) : PW X e t' := ⟨fun wh pins s σ H Q I w => h.run wh pins s σ H Q I (i σ H Q w)⟩
theorem PA.imp {X : Cx} {e : List Expr} {t t' : TA} (h : PA X e t) (i : ∀ σ H Q, t' σ H Q → t σ H Q) : PA X e t' := ⟨fun pos pins s σ H Q I w => h.run pos pins s σ H Q I (i σ H Q w)⟩

section
variable {X : Cx} {G : Sg} {W : WX} {σ : L2.St} {H : Hp} {F : Nat → List Addr} {ρ : Env} {a b c e : Expr} {pos : Pos} {t : T} {fa fb fc : Env → Res D}
/-- an expression ahead of the rest -/
theorem tX_bind {α : Type} {f : Env → Res D} {k : D → Env → Res α} {K : α → Env → Hp → (Nat → List Addr) → List Addr → Prop} {R : VK} (E : EnvOk G σ ρ H F) (g : Go G W σ (bnd (f ρ) k) H F K)
    (r : ∀ v d ρ1 H1 F1, EnvOk G σ ρ1 H1 F1 → Rp G.B H1 (Wof F1 G.O) v d → Go G W σ (k d ρ1) H1 F1 K → Evo H F H1 F1 [] → R v H1) : tX G W .fz f σ H R := by
  refine ⟨F, ρ, E, (Go.bind g).imp fun d ρ1 H1 F1 Fl ⟨v1, _, E1, g1⟩ v o => ?_⟩
  obtain ⟨rfl, o⟩ := Own.fz_inv o
  rw [Sg.add_nil] at E1 o
  exact r v d ρ1 H1 F1 E1 o g1 v1
theorem tO_bind {α : Type} {f : Env → Res Arg} {k : Arg → Env → Res α} {K : α → Env → Hp → (Nat → List Addr) → List Addr → Prop} {R : VK} (E : EnvOk G σ ρ H F) (g : Go G W σ (bnd (f ρ) k) H F K)
    (r : ∀ v d ρ1 H1 F1, EnvOk G σ ρ1 H1 F1 → ArgOk G σ H1 F1 v d → Go G W σ (k d ρ1) H1 F1 K → Evo H F H1 F1 [] → R v H1) : tO G W f σ H R := by
  refine ⟨F, ρ, E, (Go.bind g).imp fun d ρ1 H1 F1 Fl ⟨v1, _, E1, g1⟩ hz v o => ?_⟩
  subst hz
  rw [Sg.add_nil] at E1
  exact r v d ρ1 H1 F1 E1 o g1 v1
theorem tB_bind {α : Type} {f : Env → Res Bool} {k : Bool → Env → Res α} {K : α → Env → Hp → (Nat → List Addr) → List Addr → Prop} {R : Bool → Hp → Prop} (E : EnvOk G σ ρ H F) (g : Go G W σ (bnd (f ρ) k) H F K)
    (r : ∀ d ρ1 H1 F1, EnvOk G σ ρ1 H1 F1 → Go G W σ (k d ρ1) H1 F1 K → Evo H F H1 F1 [] → R d H1) : tB G W f σ H R := by
  refine ⟨F, ρ, E, (Go.bind g).imp fun d ρ1 H1 F1 Fl ⟨v1, _, E1, g1⟩ hz => ?_⟩
  subst hz
  rw [Sg.add_nil] at E1
  exact r d ρ1 H1 F1 E1 g1 v1
theorem tAs_bind {α : Type} {f : Env → Res (List Arg)} {k : List Arg → Env → Res α} {K : α → Env → Hp → (Nat → List Addr) → List Addr → Prop} {R : List V → Hp → Prop} (E : EnvOk G σ ρ H F) (g : Go G W σ (bnd (f ρ) k) H F K)
    (r : ∀ vs as ρ1 H1 F1, EnvOk G σ ρ1 H1 F1 → ArgsOk G σ H1 F1 vs as → Go G W σ (k as ρ1) H1 F1 K → Evo H F H1 F1 [] → R vs H1) : tAs G W f σ H R := by
  refine ⟨F, ρ, E, (Go.bind g).imp fun d ρ1 H1 F1 Fl ⟨v1, _, E1, g1⟩ hz vs o => ?_⟩
  subst hz
  rw [Sg.add_nil] at E1
  exact r vs d ρ1 H1 F1 E1 o g1 v1
theorem Go.done {α : Type} {a : α} {K : α → Env → Hp → (Nat → List Addr) → List Addr → Prop} (g : Go G W σ (.ok a ρ) H F K) (E : EnvOk G σ ρ H F) : K a ρ H F [] :=
  g H F [] Evo.refl FlOk.nil (by rw [Sg.add_nil]; exact E)
theorem Own.there {B : Bs} {H : Hp} {W : Wr} : ∀ {t : T} {v : V} {d : D} {Fl : List Addr}, Own B H W t v d Fl → ∀ a ∈ Fl, ∃ o, H a = some o := by
  intro t v d Fl h
  have key : ∀ n, (∀ (d : D), sizeOf d ≤ n → ∀ {t : T} {v : V} {Fl : List Addr}, Own B H W t v d Fl → ∀ a ∈ Fl, ∃ o, H a = some o) ∧
      (∀ (ds : List D), sizeOf ds ≤ n → ∀ {t : T} {v : List V} {Fl : List Addr}, OwnAll B H W t v ds Fl → ∀ a ∈ Fl, ∃ o, H a = some o) ∧
      (∀ (ds : List (D × D)), sizeOf ds ≤ n → ∀ {t : T} {v : List (Key × V)} {Fl : List Addr}, OwnK B H W t v ds Fl → ∀ a ∈ Fl, ∃ o, H a = some o) ∧
      (∀ (ds : List (D × D)), sizeOf ds ≤ n → ∀ {t : T} {v : List TEnt} {Fl : List Addr}, OwnT B H W t v ds Fl → ∀ a ∈ Fl, ∃ o, H a = some o) := by
    intro n
    induction n with
    | zero =>
      refine ⟨fun d hd => ?_, fun d hd => ?_, fun d hd => ?_, fun d hd => ?_⟩
      · exfalso; cases d <;> simp at hd
      · exfalso; cases d <;> simp at hd
      · exfalso; cases d <;> simp at hd
      · exfalso; cases d <;> simp at hd
    | succ n ih =>
      obtain ⟨i1, i2, i3, i4⟩ := ih
      refine ⟨fun d hd t v Fl h a ha => ?_, fun d hd t v Fl h a ha => ?_, fun d hd t v Fl h a ha => ?_, fun d hd t v Fl h a ha => ?_⟩
      · cases h with
        | fz _ => cases ha
        | imm _ _ => cases ha
        | lst e l q =>
          rcases List.mem_cons.mp ha with rfl | ha
          · exact ⟨_, e⟩
          · exact i2 _ (by simp at hd; omega) q a ha
        | dK e l q =>
          rcases List.mem_cons.mp ha with rfl | ha
          · exact ⟨_, e⟩
          · exact i3 _ (by simp at hd; omega) q a ha
        | dT z e l q =>
          rcases List.mem_cons.mp ha with rfl | ha
          · exact ⟨_, e⟩
          · exact i4 _ (by simp at hd; omega) q a ha
      · cases h with
        | nil => cases ha
        | cons x y =>
          rcases List.mem_append.mp ha with ha | ha
          · exact i1 _ (by simp at hd; omega) x a ha
          · exact i2 _ (by simp at hd; omega) y a ha
      · cases h with
        | nil => cases ha
        | cons x y =>
          rcases List.mem_append.mp ha with ha | ha
          · exact i1 _ (by simp at hd; omega) x a ha
          · exact i3 _ (by simp at hd; omega) y a ha
      · cases h with
        | nil => cases ha
        | cons e1 e0 e2 x y =>
          rcases List.mem_append.mp ha with ha | ha
          · exact i1 _ (by simp at hd; omega) x a ha
          · exact i4 _ (by simp at hd; omega) y a ha
  exact (key (sizeOf d)).1 d (Nat.le_refl _) h
/-- new things, owned by none of the slots -/
theorem EnvOk.news {H' : Hp} {Fl : List Addr} (E : EnvOk G σ ρ H F) (hn : ∀ a ∈ Fl, H a = none) (k : Ext H H') (hp' : ∀ a ∈ Fl, ∃ o, H' a = some o) : EnvOk (G.add Fl) σ ρ H' F where
  len := E.len
  slot := fun i d e => by
    obtain ⟨v, h1, h2⟩ := E.slot i d e
    refine ⟨v, h1, Own.keep (fun a q => ?_) d (fun a o e _ => k a o e) h2⟩
    rcases q with q | q | q
    · exact .inl (.inl q)
    · exact .inl (.inr q)
    · exact .inr (hn a q)
  nd := E.nd
  dj := E.dj
  og := fun i a h q => by
    rcases q with q | q
    · exact E.og i a h q
    · obtain ⟨o, e⟩ := E.hv i a h
      rw [hn a q] at e
      cases e
  hv := fun i a h => let ⟨o, e⟩ := E.hv i a h; ⟨o, k _ _ e⟩
  oh := fun a h => by
    rcases h with h | h
    · obtain ⟨o, e⟩ := E.oh a h
      exact ⟨o, k _ _ e⟩
    · exact hp' a h
  pn := E.pn
  ff := E.ff
theorem Evo.news {H' : Hp} {Fl : List Addr} (k : Ext H H') (hn : ∀ a ∈ Fl, H a = none) : Evo H F H' F Fl := ⟨fun a o e _ => k a o e, fun a z => z.imp id (hn a)⟩
theorem Wof_add {O : Wr} {Fl : List Addr} : (fun a => Wof F O a ∨ a ∈ Fl) = Wof F (fun a => O a ∨ a ∈ Fl) := by
  funext a
  unfold Wof
  exact propext or_assoc
/-- the end of a value that was reckoned -/
theorem Go.fin {H' : Hp} {Fl : List Addr} {d : D} {v : V} {K : D → Env → Hp → (Nat → List Addr) → List Addr → Prop} (g : Go G W σ (.ok d ρ) H F K) (E : EnvOk G σ ρ H F) (k : Ext H H') (hn : ∀ a ∈ Fl, H a = none) (nd : Fl.Nodup)
    (o : Own G.B H' (fun a => Wof F G.O a ∨ a ∈ Fl) t v d Fl) : K d ρ H' F Fl ∧ Own G.B H' (Wof F (G.add Fl).O) t v d Fl := by
  rw [Wof_add] at o
  refine ⟨g H' F Fl (Evo.news k hn) ⟨nd, fun a ha q => ?_⟩ (E.news hn k (Own.there o)), o⟩
  obtain ⟨x, e⟩ := E.oh a q
  rw [hn a ha] at e
  cases e
theorem there_W (E : EnvOk G σ ρ H F) : ∀ a, Wof F G.O a → ∃ o, H a = some o := fun a z => by
  rcases z with ⟨i, hi⟩ | z
  · exact E.hv i a hi
  · exact E.oh a z

/-! ### owned, frozen, looked at -/
/-- a new thing, frozen -/
theorem dx_frz {f : Env → Res D} (h : DX X G W t e f) : DX X G W .fz e f := PE.imp h fun σ H Q ⟨F, ρ, E, g⟩ => by
  refine ⟨F, ρ, E, ?_⟩
  cases q : f ρ with
  | err => rw [q] at g; exact g
  | exc c ρ' => rw [q] at g; exact g
  | ok d ρ' =>
    rw [q] at g
    intro H' F' Fl v1 fo E1 v o
    have E2 := E1.drop
    refine g H' F' [] v1.drop FlOk.nil (by rw [Sg.add_nil]; exact E2) v ?_
    rw [Sg.add_nil]
    refine .fz (Own.rp (fun a z => z.imp id .inl) d (fun a ha z => ?_) o)
    rcases z with ⟨i, hi⟩ | z
    · exact E1.og i a hi (.inr ha)
    · exact fo.2 a ha z
def oVal (f : Env → Res D) : Env → Res Arg := fun ρ => bnd (f ρ) fun d ρ1 => .ok (.val d) ρ1
def oSlot (j : Nat) : Env → Res Arg := fun ρ => match slotD ρ j with
  | some _ => .ok (.io j) ρ
  | none => .err
def oLend (j : Nat) : Env → Res Arg := fun ρ => match slotD ρ j with
  | some _ => .ok (.lnd j) ρ
  | none => .err
theorem do_val {f : Env → Res D} (h : DX X G W .fz e f) : DO X G W e (oVal f) := PE.imp h fun σ H Q ⟨F, ρ, E, g⟩ =>
  tX_bind E g fun v d ρ1 H1 F1 E1 r g1 _ => Go.done g1 E1 rfl v r
end
end PD

set_option Elab.async false
set_option linter.all false
set_option maxRecDepth 100000
set_option maxHeartbeats 4000000
/-! PDd: generic rules of expressions. -/
namespace PD
open PySem PySem.Spec PyProof.Rows L2

/-! ### what the pieces are worth -/
def eVar (i : Nat) : Env → Res D := fun ρ => ofO (slotD ρ i) ρ
def eMov (i : Nat) : Env → Res D := fun ρ => match slotD ρ i with
  | some d => .ok d (ρ.set i none)
  | none => .err
def eC (d : D) : Env → Res D := fun ρ => .ok d ρ
def aNil : Env → Res (List Arg) := fun ρ => .ok [] ρ
def aCons (f : Env → Res Arg) (g : Env → Res (List Arg)) : Env → Res (List Arg) := fun ρ => bnd (f ρ) fun a ρ1 => bnd (g ρ1) fun as ρ2 => .ok (a :: as) ρ2
def valsOf : List Arg → Option (List D)
  | [] => some []
  | .val d :: as => (valsOf as).map fun ds => d :: ds
  | _ :: _ => none
def eTup (f : Env → Res (List Arg)) : Env → Res D := fun ρ => bnd (f ρ) fun as ρ1 => match valsOf as with
  | some ds => if ds.length ≤ lim then .ok (.tuple ds) ρ1 else .err
  | none => .err
def eLst (f : Env → Res (List Arg)) : Env → Res D := fun ρ => bnd (f ρ) fun as ρ1 => match valsOf as with
  | some ds => if ds.length ≤ lim then .ok (.list ds) ρ1 else .err
  | none => .err
def op2 (g : D → D → Option D) (ρ : Env) (a b : Arg) : Res D := match deref ρ a with
  | some x => match deref ρ b with
    | some y => ofO (g x y) ρ
    | none => .err
  | none => .err
def eOp2 (g : D → D → Option D) (fa fb : Env → Res Arg) : Env → Res D := fun ρ => bnd (fa ρ) fun a ρ1 => bnd (fb ρ1) fun b ρ2 => op2 g ρ2 a b
def eOp1 (g : D → Option D) (fa : Env → Res Arg) : Env → Res D := fun ρ => bnd (fa ρ) fun a ρ1 => match deref ρ1 a with
  | some x => ofO (g x) ρ1
  | none => .err
def eOpN (g : List D → Option D) (f : Env → Res (List Arg)) : Env → Res D := fun ρ => bnd (f ρ) fun as ρ1 => match derefs ρ1 as with
  | some ds => ofO (g ds) ρ1
  | none => .err
def eMt (g : D → List D → Option D) (fo : Env → Res Arg) (f : Env → Res (List Arg)) : Env → Res D := fun ρ => bnd (fo ρ) fun a ρ1 => bnd (f ρ1) fun as ρ2 => match deref ρ2 a with
  | some x => match derefs ρ2 as with
    | some ds => ofO (g x ds) ρ2
    | none => .err
  | none => .err
def boolD : D → Option Bool
  | .bool b => some b
  | _ => none
def bOf (f : Env → Res D) : Env → Res Bool := fun ρ => bnd (f ρ) fun d ρ1 => ofO (boolD d) ρ1
def eAnd (fa fb : Env → Res D) : Env → Res D := fun ρ => bnd (fa ρ) fun d ρ1 => match d with
  | .bool true => fb ρ1
  | .bool false => .ok (.bool false) ρ1
  | _ => .err
def eOr (fa fb : Env → Res D) : Env → Res D := fun ρ => bnd (fa ρ) fun d ρ1 => match d with
  | .bool true => .ok (.bool true) ρ1
  | .bool false => fb ρ1
  | _ => .err
def eNot (fa : Env → Res D) : Env → Res D := fun ρ => bnd (fa ρ) fun d ρ1 => match d with
  | .bool b => .ok (.bool !b) ρ1
  | _ => .err
def bAnd (fa fb : Env → Res Bool) : Env → Res Bool := fun ρ => bnd (fa ρ) fun b ρ1 => if b = true then fb ρ1 else .ok false ρ1
def bOr (fa fb : Env → Res Bool) : Env → Res Bool := fun ρ => bnd (fa ρ) fun b ρ1 => if b = true then .ok true ρ1 else fb ρ1
def bNot (fa : Env → Res Bool) : Env → Res Bool := fun ρ => bnd (fa ρ) fun b ρ1 => .ok (!b) ρ1
def eIf (fc : Env → Res Bool) (fa fb : Env → Res D) : Env → Res D := fun ρ => bnd (fc ρ) fun b ρ1 => if b = true then fa ρ1 else fb ρ1
def eChain (g g' : D → D → Option D) (fa fb fc : Env → Res Arg) : Env → Res D := fun ρ => bnd (fa ρ) fun a ρ1 => bnd (fb ρ1) fun b ρ2 => bnd (op2 g ρ2 a b) fun d ρ3 => match d with
  | .bool true => bnd (fc ρ3) fun c ρ4 => op2 g' ρ4 b c
  | .bool false => .ok (.bool false) ρ3
  | _ => .err
def pNone : Env → Res (Option Int) := fun ρ => .ok none ρ
def pSome (f : Env → Res D) : Env → Res (Option Int) := fun ρ => bnd (f ρ) fun d ρ1 => match d with
  | .int i => .ok (some i) ρ1
  | _ => .err
def eSl (g : D → Option Int → Option Int → Option D) (fo : Env → Res Arg) (fl fu : Env → Res (Option Int)) : Env → Res D := fun ρ => bnd (fo ρ) fun a ρ1 => bnd (fl ρ1) fun l ρ2 => bnd (fu ρ2) fun u ρ3 => match deref ρ3 a with
  | some x => ofO (g x l u) ρ3
  | none => .err

/-! ### values in, a value out -/
def VOut (B : Bs) (H : Hp) (W : Wr) (t : T) (z : D) (Q : VK) : Prop := ∀ v H' Fl, Ext H H' → (∀ a ∈ Fl, H a = none) → Fl.Nodup → Own B H' (fun a => W a ∨ a ∈ Fl) t v z Fl → Q v H'
def PV1 (B : Bs) (r : V → Hp → VK → Prop) (t : T) (g : D → Option D) : Prop := ∀ x d H (W : Wr) (Q : VK) z, Rq B H W x d → g d = some z → (∀ a, W a → ∃ o, H a = some o) → VOut B H W t z Q → r x H Q
def PV2 (B : Bs) (r : R2) (t : T) (g : D → D → Option D) : Prop := ∀ x y d e H (W : Wr) (Q : VK) z, Rq B H W x d → Rq B H W y e → g d e = some z → (∀ a, W a → ∃ o, H a = some o) → VOut B H W t z Q → r x y H Q
def PVn (B : Bs) (r : List V → Hp → VK → Prop) (t : T) (g : List D → Option D) : Prop := ∀ xs ds H (W : Wr) (Q : VK) z, RqAll B H W xs ds → g ds = some z → (∀ a, W a → ∃ o, H a = some o) → VOut B H W t z Q → r xs H Q
def PVm (B : Bs) (r : V → List V → Hp → VK → Prop) (t : T) (g : D → List D → Option D) : Prop := ∀ x xs d ds H (W : Wr) (Q : VK) z, Rq B H W x d → RqAll B H W xs ds → g d ds = some z → (∀ a, W a → ∃ o, H a = some o) → VOut B H W t z Q → r x xs H Q
def PVs (B : Bs) (r : V → Option Int → Option Int → Hp → VK → Prop) (t : T) (g : D → Option Int → Option Int → Option D) : Prop := ∀ x d l u H (W : Wr) (Q : VK) z, Rq B H W x d → g d l u = some z → (∀ a, W a → ∃ o, H a = some o) → VOut B H W t z Q → r x l u H Q
theorem VOut.same {B : Bs} {H : Hp} {W : Wr} {t : T} {z : D} {Q : VK} {v : V} (h : VOut B H W t z Q) (o : Own B H W t v z []) : Q v H := h v H [] (fun _ _ e => e) (fun _ q => nomatch q) List.nodup_nil (by simpa using o)
theorem VOut.new {B : Bs} {H : Hp} {W : Wr} {t : T} {z : D} {Q : VK} {p : Addr} {o : HO} (h : VOut B H W t z Q) (hp : H p = none) (ho : Own B (upd H p o) (fun a => W a ∨ a ∈ [p]) t (.ref p) z [p]) : Q (.ref p) (upd H p o) :=
  h (.ref p) _ [p] (fun a u e => by rw [upd_ne (ne_of_none e hp)]; exact e) (fun a q => by rw [List.mem_singleton.mp q]; exact hp) (by simp) ho
theorem ext_upd {H : Hp} {p : Addr} {o : HO} (hp : H p = none) : Ext H (upd H p o) := fun a u e => by rw [upd_ne (ne_of_none e hp)]; exact e
theorem RpAll.into {B : Bs} {H : Hp} {W : Wr} {p : Addr} {o : HO} {vs : List V} {ds : List D} (h : RpAll B H W vs ds) (hp : H p = none) : RpAll B (upd H p o) (fun a => W a ∨ a ∈ [p]) vs ds :=
  RpAll.keep (fun a u e _ => ext_upd hp a u e) (fun a q => q.imp id fun q => by rw [List.mem_singleton.mp q]; exact hp) ds h
/-- a new list of frozen things -/
theorem VOut.lst {B : Bs} {H : Hp} {W : Wr} {ds : List D} {xs : List V} {Q : VK} {p : Addr} (h : VOut B H W (.lst .fz) (.list ds) Q) (hp : H p = none) (r : RpAll B H W xs ds) (l : ds.length ≤ lim) : Q (.ref p) (upd H p (.lst xs)) :=
  h.new hp (Own.lst_of upd_same l (r.into hp))
/-- a new tuple -/
theorem VOut.tup {B : Bs} {H : Hp} {W : Wr} {ds : List D} {xs : List V} {Q : VK} {p : Addr} (h : VOut B H W .fz (.tuple ds) Q) (hp : H p = none) (r : RpAll B H W xs ds) (l : ds.length ≤ lim) (hW : ∀ a, W a → ∃ o, H a = some o) : Q (.ref p) (upd H p (.tup xs)) :=
  h (.ref p) _ [] (ext_upd hp) (fun a q => nomatch q) List.nodup_nil (.fz (.tup (.inl upd_same) (fun q => by
    rcases q with q | q
    · obtain ⟨o, e⟩ := hW p q
      rw [hp] at e; cases e
    · cases q) l (RpAll.keep (fun a u e _ => ext_upd hp a u e) (fun a q => .inl (q.elim id fun q => nomatch q)) ds r)))

section
variable {X : Cx} {G : Sg} {W : WX} {a b c e : Expr} {es rest : List Expr} {pos : Pos} {t : T} {f g h : Env → Res D} {fa fb fc : Env → Res Arg} {fs : Env → Res (List Arg)} {x : Str} {i j : Nat}

theorem dx_var (hN : X.N[i]? = some x) (hv : Vis X.env.scope x) (hf : G.Γ i = .fz) (hd : (x == ("__debug__" : Str)) = false := by decide) (hcd : (x == ("__classdict__" : Str)) = false := by decide) : DX X G W .fz (.Name x pos) (eVar i) :=
  PE.imp (pe_var hN hv hd hcd) fun σ H Q ⟨F, ρ, E, g⟩ => by
    unfold eVar at g
    cases q : slotD ρ i with
    | none => rw [q] at g; exact g.elim
    | some d =>
      rw [q] at g
      obtain ⟨v, h1, h2⟩ := E.slot i d (slotD_some q)
      rw [hf] at h2
      obtain ⟨_, r⟩ := Own.fz_inv h2
      refine ⟨v, h1, Go.done g E v ?_⟩
      rw [Sg.add_nil]
      exact .fz r
theorem dx_mov (hN : X.N[i]? = some x) (hv : Vis X.env.scope x) (hp : G.pin i = none) (hd : (x == ("__debug__" : Str)) = false := by decide) (hcd : (x == ("__classdict__" : Str)) = false := by decide) : DX X G W (G.Γ i) (.Name x pos) (eMov i) :=
  PE.imp (pe_var hN hv hd hcd) fun σ H Q ⟨F, ρ, E, g⟩ => by
    unfold eMov at g
    cases q : slotD ρ i with
    | none => rw [q] at g; exact g.elim
    | some d =>
      rw [q] at g
      obtain ⟨v, h1, h2⟩ := E.slot i d (slotD_some q)
      have sub : Wof (updF F i []) (fun a => G.O a ∨ a ∈ F i) = Wof F G.O := by
        funext a
        apply propext
        constructor
        · rintro (⟨j, hj⟩ | hj | hj)
          · by_cases e : j = i
            · subst e; rw [updF_same] at hj; cases hj
            · rw [updF_ne e] at hj; exact .inl ⟨j, hj⟩
          · exact .inr hj
          · exact .inl ⟨i, hj⟩
        · rintro (⟨j, hj⟩ | hj)
          · by_cases e : j = i
            · subst e; exact .inr (.inr hj)
            · exact .inl ⟨j, by rw [updF_ne e]; exact hj⟩
          · exact .inr (.inl hj)
      refine ⟨v, h1, g H (updF F i []) (F i) ⟨fun _ _ e _ => e, fun a z => .inl ?_⟩ ⟨E.nd i, E.og i⟩ ?_ v ?_⟩
      · rcases z with ⟨j, hj⟩ | z
        · by_cases e : j = i
          · subst e; rw [updF_same] at hj; cases hj
          · rw [updF_ne e] at hj; exact ⟨j, hj⟩
        · exact ⟨i, z⟩
      · refine ⟨by simpa using E.len, fun j d' e => ?_, fun j => ?_, fun j k a h1 h2 => ?_, fun j a h q => ?_, fun j a h => ?_, fun a q => ?_, E.pn, fun j hj => ?_⟩
        · rcases get_set_some e with ⟨_, e1, _⟩ | ⟨ne, e⟩
          · cases e1
          · obtain ⟨u, k1, k2⟩ := E.slot j d' e
            refine ⟨u, k1, ?_⟩
            show Own G.B H (Wof (updF F i []) (fun a => G.O a ∨ a ∈ F i)) (G.Γ j) u d' (updF F i [] j)
            rw [sub, updF_ne ne]
            exact k2
        · by_cases e : j = i
          · subst e; rw [updF_same]; exact List.nodup_nil
          · rw [updF_ne e]; exact E.nd j
        · by_cases e1 : j = i
          · subst e1; rw [updF_same] at h1; cases h1
          · by_cases e2 : k = i
            · subst e2; rw [updF_same] at h2; cases h2
            · rw [updF_ne e1] at h1; rw [updF_ne e2] at h2; exact E.dj j k a h1 h2
        · by_cases e : j = i
          · subst e; rw [updF_same] at h; cases h
          · rw [updF_ne e] at h
            rcases q with q | q
            · exact E.og j a h q
            · exact e (E.dj j i a h q)
        · by_cases e : j = i
          · subst e; rw [updF_same] at h; cases h
          · rw [updF_ne e] at h; exact E.hv j a h
        · rcases q with q | q
          · exact E.oh a q
          · exact E.hv i a q
        · by_cases e : j = i
          · subst e; rw [updF_same]
          · rw [updF_ne e]; exact E.ff j hj
      · show Own G.B H (Wof (updF F i []) (fun a => G.O a ∨ a ∈ F i)) (G.Γ i) v d (F i)
        rw [sub]
        exact h2
theorem do_slot (hN : X.N[i]? = some x) (hv : Vis X.env.scope x) (hf : plainT (G.Γ i) = true) (hd : (x == ("__debug__" : Str)) = false := by decide) (hcd : (x == ("__classdict__" : Str)) = false := by decide) : DO X G W (.Name x pos) (oSlot i) :=
  PE.imp (pe_var hN hv hd hcd) fun σ H Q ⟨F, ρ, E, g⟩ => by
    unfold oSlot at g
    cases q : slotD ρ i with
    | none => rw [q] at g; exact g.elim
    | some d =>
      rw [q] at g
      obtain ⟨v, h1, h2⟩ := E.slot i d (slotD_some q)
      exact ⟨v, h1, Go.done g E rfl v ⟨h1, hf⟩⟩
theorem do_lend (hN : X.N[i]? = some x) (hv : Vis X.env.scope x) (hd : (x == ("__debug__" : Str)) = false := by decide) (hcd : (x == ("__classdict__" : Str)) = false := by decide) : DO X G W (.Name x pos) (oLend i) :=
  PE.imp (pe_var hN hv hd hcd) fun σ H Q ⟨F, ρ, E, g⟩ => by
    unfold oLend at g
    cases q : slotD ρ i with
    | none => rw [q] at g; exact g.elim
    | some d =>
      rw [q] at g
      obtain ⟨v, h1, h2⟩ := E.slot i d (slotD_some q)
      exact ⟨v, h1, Go.done g E rfl v h1⟩
/-- a thing without a heap -/
theorem dx_const {v : V} {d : D} (he : PE X e (tC v)) (r : ∀ B H W, Rp B H W v d) : DX X G W .fz e (eC d) := PE.imp he fun σ H Q ⟨F, ρ, E, g⟩ => Go.done g E v (.fz (r _ _ _))
theorem dx_int {i : Int} {k} : DX X G W .fz (.Constant (.int i) k pos) (eC (.int i)) := dx_const pe_int fun _ _ _ => .int i
theorem dx_bl {i : Bool} {k} : DX X G W .fz (.Constant (.bool i) k pos) (eC (.bool i)) := dx_const pe_bl fun _ _ _ => .bl i
theorem dx_non {k} : DX X G W .fz (.Constant .none k pos) (eC .none) := dx_const pe_non fun _ _ _ => .non
theorem dx_str {z : Str} {k} (h : z.length ≤ lim := by decide) : DX X G W .fz (.Constant (.str z) k pos) (eC (.str z)) := dx_const pe_str fun _ _ _ => .str h
theorem dx_globI {u : Int} {tk : Tok} (hg : Gl X x) (hm : X.mg x = some (.int u tk)) (hd : (x == ("__debug__" : Str)) = false := by decide) : DX X G W .fz (.Name x pos) (eC (.int u)) := dx_const (pe_glob (v := .int u) hg hm ⟨_, rfl⟩ hd) fun _ _ _ => .int u
theorem dx_globS {u : Str} {tk : Tok} (hg : Gl X x) (hm : X.mg x = some (.str u tk)) (hl : u.length ≤ lim) (hd : (x == ("__debug__" : Str)) = false := by decide) : DX X G W .fz (.Name x pos) (eC (.str u)) := dx_const (pe_glob (v := .str u) hg hm ⟨_, rfl⟩ hd) fun _ _ _ => .str hl
theorem da_nil : DA X G W [] aNil := PA.imp pa_nil fun σ H Q ⟨F, ρ, E, g⟩ => Go.done g E rfl [] .nil
theorem da_cons (ha : DO X G W e fa) (hr : DA X G W es fs) (hs : starEach (e :: es) X.env = (false, eval e X.env) :: starEach es X.env := by rfl) : DA X G W (e :: es) (aCons fa fs) := PA.imp (pa_cons ha hr hs) fun σ H Q ⟨F, ρ, E, g⟩ =>
  tO_bind E g fun v a ρ1 H1 F1 E1 o g1 _ => tAs_bind E1 g1 fun vs as ρ2 H2 F2 E2 os g2 v2 => Go.done g2 E2 rfl (v :: vs) (.cons (o.evo v2) os)
theorem ArgsOk.vals {σ : L2.St} {H : Hp} {F : Nat → List Addr} : ∀ {vs : List V} {as : List Arg} {ds : List D}, ArgsOk G σ H F vs as → valsOf as = some ds → RpAll G.B H (Wof F G.O) vs ds
  | _, [], _, h, e => by
    cases h
    have e : some [] = some _ := e
    cases e
    exact .nil
  | _, .val d :: as, _, h, e => by
    cases h with
    | cons h1 h2 =>
      unfold valsOf at e
      cases q : valsOf as with
      | none => rw [q] at e; cases e
      | some es =>
        rw [q] at e
        cases e
        exact .cons h1 (h2.vals q)
  | _, .io _ :: _, _, _, e => by cases e
  | _, .lnd _ :: _, _, _, e => by cases e
theorem dx_tup {k} (ha : DA X G W es fs) : DX X G W .fz (.Tuple es k pos) (eTup fs) := PE.imp (pe_tup ha) fun σ H Q ⟨F, ρ, E, g⟩ => tAs_bind E g fun vs as ρ1 H1 F1 E1 os g1 _ => by
  cases q : valsOf as with
  | none => rw [q] at g1; exact g1.elim
  | some ds =>
    simp only [q] at g1
    by_cases hl : ds.length ≤ lim
    · rw [if_pos hl] at g1
      have r := os.vals q
      refine ⟨by rw [r.length]; exact lim_size hl, fun p hp => ?_⟩
      refine VOut.tup (B := G.B) (W := Wof F1 G.O) (ds := ds) (fun v H' Fl k hn nd o => ?_) hp r hl (there_W E1)
      obtain ⟨h3, o'⟩ := g1.fin E1 k hn nd o
      exact h3 v o'
    · rw [if_neg hl] at g1; exact g1.elim
theorem dx_lst (ha : DA X G W es fs) : DX X G W (.lst .fz) (.List es pos) (eLst fs) := PE.imp (pe_lst ha) fun σ H Q ⟨F, ρ, E, g⟩ => tAs_bind E g fun vs as ρ1 H1 F1 E1 os g1 _ => by
  cases q : valsOf as with
  | none => rw [q] at g1; exact g1.elim
  | some ds =>
    simp only [q] at g1
    by_cases hl : ds.length ≤ lim
    · rw [if_pos hl] at g1
      have r := os.vals q
      refine ⟨by rw [r.length]; exact lim_size hl, fun p hp => ?_⟩
      refine VOut.lst (B := G.B) (W := Wof F1 G.O) (ds := ds) (fun v H' Fl k hn nd o => ?_) hp r hl
      obtain ⟨h3, o'⟩ := g1.fin E1 k hn nd o
      exact h3 v o'
    · rw [if_neg hl] at g1; exact g1.elim
/-- the end of an operation of two operands -/
theorem op2_end {r : R2} {gg : D → D → Option D} {σ : L2.St} {H2 : Hp} {F2 : Nat → List Addr} {ρ2 : Env} {x y : V} {a1 b1 : Arg} {Q : VK} (pv : PV2 G.B r t gg) (E2 : EnvOk G σ ρ2 H2 F2) (o1 : ArgOk G σ H2 F2 x a1) (o2 : ArgOk G σ H2 F2 y b1)
    {K : D → Env → Hp → (Nat → List Addr) → List Addr → Prop} (g2 : Go G W σ (op2 gg ρ2 a1 b1) H2 F2 K) (hK : ∀ d H' F' Fl v, Ext H2 H' → K d ρ2 H' F' Fl → Own G.B H' (Wof F' (G.add Fl).O) t v d Fl → EnvOk (G.add Fl) σ ρ2 H' F' → F' = F2 → Q v H') : r x y H2 Q := by
  unfold op2 at g2
  cases e1 : deref ρ2 a1 with
  | none => rw [e1] at g2; exact g2.elim
  | some d1 =>
    rw [e1] at g2
    cases e2 : deref ρ2 b1 with
    | none => rw [e2] at g2; exact g2.elim
    | some d2 =>
      simp only [e2] at g2
      cases e3 : gg d1 d2 with
      | none => rw [e3] at g2; exact g2.elim
      | some z =>
        rw [e3] at g2
        refine pv x y d1 d2 H2 (Wof F2 G.O) Q z (o1.rq E2 e1) (o2.rq E2 e2) e3 (there_W E2) fun v H' Fl k hn nd o => ?_
        obtain ⟨h3, o'⟩ := Go.fin (G := G) (W := W) (K := K) g2 E2 k hn nd o
        exact hK z H' F2 Fl v k h3 o' (E2.news hn k (Own.there o)) rfl
theorem dx_bin {op : Operator} {r : R2} {gg : D → D → Option D} (ho : OpR X (binaryOp op) r) (pv : PV2 G.B r t gg) (ha : DO X G W a fa) (hb : DO X G W b fb) : DX X G W t (.BinOp a op b pos) (eOp2 gg fa fb) :=
  PE.imp (pe_op ho ha hb) fun σ H Q ⟨F, ρ, E, g⟩ => tO_bind E g fun x a1 ρ1 H1 F1 E1 o1 g1 _ => tO_bind E1 g1 fun y b1 ρ2 H2 F2 E2 o2 g2 v2 => op2_end pv E2 (o1.evo v2) o2 g2 fun d H' F' Fl v _ k o _ _ => k v o
theorem dx_cmp {op : CmpOp} {r : R2} {gg : D → D → Option D} (ho : OpR X (compareOp op) r) (pv : PV2 G.B r t gg) (ha : DO X G W a fa) (hb : DO X G W b fb) (hm : behindInMarks op b = false) : DX X G W t (.Compare a [op] [b] pos) (eOp2 gg fa fb) :=
  PE.imp (pe_cmpR ho ha hb hm) fun σ H Q ⟨F, ρ, E, g⟩ => tO_bind E g fun x a1 ρ1 H1 F1 E1 o1 g1 _ => tO_bind E1 g1 fun y b1 ρ2 H2 F2 E2 o2 g2 v2 => op2_end pv E2 (o1.evo v2) o2 g2 fun d H' F' Fl v _ k o _ _ => k v o
theorem dx_ix {r : R2} {gg : D → D → Option D} (hr : IxR X r) (pv : PV2 G.B r t gg) (ha : DO X G W a fa) (hb : DO X G W b fb) (hs : PlainIx b) : DX X G W t (.Subscript a b pos) (eOp2 gg fa fb) :=
  PE.imp (pe_ix hr ha hb hs) fun σ H Q ⟨F, ρ, E, g⟩ => tO_bind E g fun x a1 ρ1 H1 F1 E1 o1 g1 _ => tO_bind E1 g1 fun y b1 ρ2 H2 F2 E2 o2 g2 v2 => op2_end pv E2 (o1.evo v2) o2 g2 fun d H' F' Fl v _ k o _ _ => k v o
theorem own_bool {B : Bs} {H : Hp} {W : Wr} {v : V} {k : Bool} {Fl : List Addr} (o : Own B H W t v (.bool k) Fl) : v = .bl k := by
  cases o with
  | fz r => cases r; rfl
  | imm _ r => cases r; rfl
/-- a comparison as a test -/
theorem dt_cmp {op : CmpOp} {r : R2} {gg : D → D → Option D} (ho : OpR X (compareOp op) r) (pv : PV2 G.B r .fz gg) (ha : DO X G W a fa) (hb : DO X G W b fb) (hm : behindInMarks op b = false) : DT X G W (.Compare a [op] [b] pos) (bOf (eOp2 gg fa fb)) :=
  PT.imp (pt_cmpR ho ha hb hm) fun σ H Q ⟨F, ρ, E, g⟩ => by
    unfold bOf eOp2 at g
    have g' : Go G W σ (bnd (fa ρ) fun a ρ1 => bnd (fb ρ1) fun b ρ2 => bnd (op2 gg ρ2 a b) fun d ρ3 => ofO (boolD d) ρ3) H F (fun b _ H' _ Fl => Fl = [] → Q b H') := by
      cases q1 : fa ρ with
      | err => rw [q1] at g; exact g
      | exc _ _ => rw [q1] at g; exact g
      | ok a1 ρ1 =>
        rw [q1] at g
        simp only [bnd_ok] at g ⊢
        cases q2 : fb ρ1 with
        | err => rw [q2] at g; exact g
        | exc _ _ => rw [q2] at g; exact g
        | ok b1 ρ2 => rw [q2] at g; exact g
    exact tO_bind E g' fun x a1 ρ1 H1 F1 E1 o1 g1 _ => tO_bind E1 g1 fun y b1 ρ2 H2 F2 E2 o2 g2 v2 => op2_end pv E2 (o1.evo v2) o2 (Go.bind g2) fun d H' F' Fl v _ k o E3 _ => by
      obtain ⟨v3, fo, E4, g3⟩ := k
      obtain ⟨rfl, _⟩ := Own.fz_inv o
      cases d with
      | bool q =>
        rw [own_bool o]
        rw [Sg.add_nil] at E4
        exact ⟨q, rfl, Go.done g3 E4 rfl⟩
      | _ => exact g3.elim
/-- a value that is a truth value, as a test -/
theorem dt_val {f : Env → Res D} (he : DX X G W .fz e f) (hw : ∀ whole, isTrue e X.env whole = (do let v ← whole; standAt e.pos; holding [v] (truthy v)) := by intro _; rfl) : DT X G W e (bOf f) :=
  PT.imp (pt_val he hw) fun σ H Q ⟨F, ρ, E, g⟩ => tX_bind E g fun v d ρ1 H1 F1 E1 r g1 _ => by
    cases d with
    | bool q =>
      cases r
      exact ⟨q, rfl, Go.done g1 E1 rfl⟩
    | _ => exact g1.elim
variable {ba bb : Env → Res Bool}
theorem dw_and1 (ha : DT X G W a ba) : DW X G W (.BoolOp .And [a] pos) ba := pw_and1 ha
theorem dw_or1 (ha : DT X G W a ba) : DW X G W (.BoolOp .Or [a] pos) ba := pw_or1 ha
theorem dw_and (ha : DT X G W a ba) (hb : DW X G W (.BoolOp .And (b :: rest) pos) bb) : DW X G W (.BoolOp .And (a :: b :: rest) pos) (bAnd ba bb) :=
  PW.imp (pw_and ha hb) fun σ H Q ⟨F, ρ, E, g⟩ => tB_bind E g fun d ρ1 H1 F1 E1 g1 _ => by
    cases d with
    | true => exact ⟨F1, ρ1, E1, g1⟩
    | false => exact Go.done g1 E1 rfl
theorem dw_or (ha : DT X G W a ba) (hb : DW X G W (.BoolOp .Or (b :: rest) pos) bb) : DW X G W (.BoolOp .Or (a :: b :: rest) pos) (bOr ba bb) :=
  PW.imp (pw_or ha hb) fun σ H Q ⟨F, ρ, E, g⟩ => tB_bind E g fun d ρ1 H1 F1 E1 g1 _ => by
    cases d with
    | true => exact Go.done g1 E1 rfl
    | false => exact ⟨F1, ρ1, E1, g1⟩
theorem dt_w (h : DW X G W e ba) : DT X G W e ba := h.pt
theorem dt_not (ha : DT X G W a ba) : DT X G W (.UnaryOp .Not a pos) (bNot ba) := PT.imp (pt_not ha) fun σ H Q ⟨F, ρ, E, g⟩ => tB_bind E g fun d ρ1 H1 F1 E1 g1 _ => Go.done g1 E1 rfl
theorem dx_one {op} (ha : DX X G W .fz a f) : DX X G W .fz (.BoolOp op [a] pos) f := pe_one ha
theorem dx_and (ha : DX X G W .fz a f) (hb : DX X G W .fz (.BoolOp .And (b :: rest) pos) g) : DX X G W .fz (.BoolOp .And (a :: b :: rest) pos) (eAnd f g) :=
  PE.imp (pe_and ha hb) fun σ H Q ⟨F, ρ, E, g⟩ => tX_bind E g fun v d ρ1 H1 F1 E1 r g1 _ => by
    cases d with
    | bool q =>
      cases r
      refine ⟨q, rfl, ?_⟩
      cases q with
      | true => exact ⟨F1, ρ1, E1, g1⟩
      | false => exact Go.done g1 E1 _ (.fz (.bl _))
    | _ => exact g1.elim
theorem dx_or (ha : DX X G W .fz a f) (hb : DX X G W .fz (.BoolOp .Or (b :: rest) pos) g) : DX X G W .fz (.BoolOp .Or (a :: b :: rest) pos) (eOr f g) :=
  PE.imp (pe_or ha hb) fun σ H Q ⟨F, ρ, E, g⟩ => tX_bind E g fun v d ρ1 H1 F1 E1 r g1 _ => by
    cases d with
    | bool q =>
      cases r
      refine ⟨q, rfl, ?_⟩
      cases q with
      | true => exact Go.done g1 E1 _ (.fz (.bl _))
      | false => exact ⟨F1, ρ1, E1, g1⟩
    | _ => exact g1.elim
theorem dx_not (ha : DX X G W .fz a f) : DX X G W .fz (.UnaryOp .Not a pos) (eNot f) :=
  PE.imp (pe_not ha) fun σ H Q ⟨F, ρ, E, g⟩ => tX_bind E g fun v d ρ1 H1 F1 E1 r g1 _ => by
    cases d with
    | bool q =>
      cases r
      exact ⟨q, rfl, Go.done g1 E1 _ (.fz (.bl _))⟩
    | _ => exact g1.elim
theorem dx_if (hc : DT X G W c ba) (ha : DX X G W t a f) (hb : DX X G W t b g) : DX X G W t (.IfExp c a b pos) (eIf ba f g) :=
  PE.imp (pe_ifExp hc ha hb) fun σ H Q ⟨F, ρ, E, g⟩ => tB_bind E g fun d ρ1 H1 F1 E1 g1 _ => by
    cases d with
    | true => exact ⟨F1, ρ1, E1, g1⟩
    | false => exact ⟨F1, ρ1, E1, g1⟩
theorem dx_un {op : UnaryOp} {r : V → Hp → VK → Prop} {gg : D → Option D} (ho : UnR X (unaryOp op) r) (pv : PV1 G.B r t gg) (ha : DO X G W a fa) : DX X G W t (.UnaryOp op a pos) (eOp1 gg fa) :=
  PE.imp (pe_un ho ha) fun σ H Q ⟨F, ρ, E, g⟩ => tO_bind E g fun x a1 ρ1 H1 F1 E1 o1 g1 _ => by
    cases e1 : deref ρ1 a1 with
    | none => rw [e1] at g1; exact g1.elim
    | some d1 =>
      simp only [e1] at g1
      cases e3 : gg d1 with
      | none => rw [e3] at g1; exact g1.elim
      | some z =>
        rw [e3] at g1
        exact pv x d1 H1 (Wof F1 G.O) Q z (o1.rq E1 e1) e3 (there_W E1) fun v H' Fl k hn nd o => let ⟨h3, o'⟩ := Go.fin g1 E1 k hn nd o; h3 v o'
theorem opN_end {r : List V → Hp → VK → Prop} {gg : List D → Option D} {σ : L2.St} {H2 : Hp} {F2 : Nat → List Addr} {ρ2 : Env} {xs : List V} {as : List Arg} {Q : VK} (pv : PVn G.B r t gg) (E2 : EnvOk G σ ρ2 H2 F2) (o1 : ArgsOk G σ H2 F2 xs as)
    (g2 : Go G W σ (match derefs ρ2 as with | some ds => ofO (gg ds) ρ2 | none => .err) H2 F2 fun d _ H' F' Fl => ∀ v, Own G.B H' (Wof F' (G.add Fl).O) t v d Fl → Q v H') : r xs H2 Q := by
  cases e1 : derefs ρ2 as with
  | none => rw [e1] at g2; exact g2.elim
  | some ds =>
    simp only [e1] at g2
    cases e3 : gg ds with
    | none => rw [e3] at g2; exact g2.elim
    | some z =>
      rw [e3] at g2
      exact pv xs ds H2 (Wof F2 G.O) Q z (o1.rq E2 e1) e3 (there_W E2) fun v H' Fl k hn nd o => let ⟨h3, o'⟩ := Go.fin g2 E2 k hn nd o; h3 v o'
theorem dx_callB {id : String} {r : List V → Hp → VK → Prop} {gg : List D → Option D} {p : Pos} (hc : CallR X (.builtin id) r) (pv : PVn G.B r t gg) (hg : Gl X x) (hm : X.mg x = none) (hv : bootBuiltins x = some (.builtin id)) (ha : DA X G W (e :: es) fs)
    (hn : x ≠ "__name__" := by decide) (hdb : (x == ("__debug__" : Str)) = false := by decide) (he : starEach (e :: es) X.env = (false, eval e X.env) :: starEach es X.env := by rfl) (hpl : (backTo pos (starEach es X.env)).any (·.1) = false := by rfl) :
    DX X G W t (.Call (.Name x p) (e :: es) [] pos) (eOpN gg fs) :=
  PE.imp (pe_callB hc hg hm hv ha hn hdb he hpl) fun σ H Q ⟨F, ρ, E, g⟩ => tAs_bind E g fun vs as ρ1 H1 F1 E1 os g1 _ => opN_end pv E1 os g1
theorem dx_callTy {id : String} {r : List V → Hp → VK → Prop} {gg : List D → Option D} {p : Pos} (hc : CallR X (.type id) r) (pv : PVn G.B r t gg) (hg : Gl X x) (hm : X.mg x = none) (hv : bootBuiltins x = some (.type id)) (ha : DA X G W (e :: es) fs)
    (hn : x ≠ "__name__" := by decide) (hdb : (x == ("__debug__" : Str)) = false := by decide) (he : starEach (e :: es) X.env = (false, eval e X.env) :: starEach es X.env := by rfl) (hpl : (backTo pos (starEach es X.env)).any (·.1) = false := by rfl) :
    DX X G W t (.Call (.Name x p) (e :: es) [] pos) (eOpN gg fs) :=
  PE.imp (pe_callTy hc hg hm hv ha hn hdb he hpl) fun σ H Q ⟨F, ρ, E, g⟩ => tAs_bind E g fun vs as ρ1 H1 F1 E1 os g1 _ => opN_end pv E1 os g1
end
end PD

set_option Elab.async false
set_option linter.all false
set_option maxRecDepth 100000
set_option maxHeartbeats 4000000
/-! PDe: the operations, by data. -/
namespace PD
open PySem PySem.Spec PyProof.Rows L2

/-! ### what a value is, by its datum -/
section
variable {B : Bs} {H : Hp} {W : Wr} {v : V}
theorem rq_int {i : Int} (h : Rq B H W v (.int i)) : v = .int i := by
  rcases h with h | ⟨_, _, _, _, e, _⟩ | ⟨_, _, _, _, e, _⟩ | ⟨_, _, _, _, e, _⟩
  · cases h; rfl
  · cases e
  · cases e
  · cases e
theorem rq_bool {i : Bool} (h : Rq B H W v (.bool i)) : v = .bl i := by
  rcases h with h | ⟨_, _, _, _, e, _⟩ | ⟨_, _, _, _, e, _⟩ | ⟨_, _, _, _, e, _⟩
  · cases h; rfl
  · cases e
  · cases e
  · cases e
theorem rq_none (h : Rq B H W v .none) : v = .non := by
  rcases h with h | ⟨_, _, _, _, e, _⟩ | ⟨_, _, _, _, e, _⟩ | ⟨_, _, _, _, e, _⟩
  · cases h; rfl
  · cases e
  · cases e
  · cases e
theorem rq_str {x : Str} (h : Rq B H W v (.str x)) : v = .str x ∧ x.length ≤ lim := by
  rcases h with h | ⟨_, _, _, _, e, _⟩ | ⟨_, _, _, _, e, _⟩ | ⟨_, _, _, _, e, _⟩
  · cases h with | str z => exact ⟨rfl, z⟩
  · cases e
  · cases e
  · cases e
theorem rq_list {ds : List D} (h : Rq B H W v (.list ds)) : ∃ a xs, v = .ref a ∧ Rm B H a xs ∧ ds.length ≤ lim ∧ RpAll B H W xs ds := by
  rcases h with h | ⟨a, xs, es, rfl, e, h1, h2, h3⟩ | ⟨_, _, _, _, e, _⟩ | ⟨_, _, _, _, e, _⟩
  · cases h with | lst r l q => exact ⟨_, _, rfl, r.rm, l, q⟩
  · cases e; exact ⟨a, xs, rfl, .inl (.inl h1), h2, h3⟩
  · cases e
  · cases e
theorem rq_tup {ds : List D} (h : Rq B H W v (.tuple ds)) : ∃ a xs, v = .ref a ∧ Rd H a (.tup xs) ∧ ¬ W a ∧ ds.length ≤ lim ∧ RpAll B H W xs ds := by
  rcases h with h | ⟨_, _, _, _, e, _⟩ | ⟨_, _, _, _, e, _⟩ | ⟨_, _, _, _, e, _⟩
  · cases h with | tup r n l q => exact ⟨_, _, rfl, r, n, l, q⟩
  · cases e
  · cases e
  · cases e
theorem rq_tupRp {ds : List D} (h : Rq B H W v (.tuple ds)) : Rp B H W v (.tuple ds) := by
  obtain ⟨a, xs, rfl, r, n, l, q⟩ := rq_tup h
  exact .tup r n l q
theorem RpAll.toInts : ∀ {ns : List Int} {vs : List V}, RpAll B H W vs (ns.map .int) → vs = ns.map V.int
  | [], _, h => by cases h; rfl
  | n :: ns, _, h => by
    cases h with
    | cons a b => cases a; rw [RpAll.toInts b]; rfl
theorem RpAll.toBools : ∀ {ns : List Bool} {vs : List V}, RpAll B H W vs (ns.map .bool) → vs = ns.map V.bl
  | [], _, h => by cases h; rfl
  | n :: ns, _, h => by
    cases h with
    | cons a b => cases a; rw [RpAll.toBools b]; rfl
theorem RpAll.ofBools : ∀ {ns : List Bool}, RpAll B H W (ns.map V.bl) (ns.map .bool)
  | [] => .nil
  | n :: ns => .cons (.bl n) RpAll.ofBools
theorem RpAll.toStrs : ∀ {ns : List Str} {vs : List V}, RpAll B H W vs (ns.map .str) → vs = ns.map V.str
  | [], _, h => by cases h; rfl
  | n :: ns, _, h => by
    cases h with
    | cons a b => cases a; rw [RpAll.toStrs b]; rfl
theorem Rp.of_mem : ∀ {ds : List D} {vs : List V} {d : D}, RpAll B H W vs ds → d ∈ ds → ∃ v, v ∈ vs ∧ Rp B H W v d
  | _ :: _, _, _, .cons a b, h => by
    rcases List.mem_cons.mp h with rfl | h
    · exact ⟨_, List.mem_cons_self, a⟩
    · obtain ⟨v, h1, h2⟩ := Rp.of_mem b h
      exact ⟨v, List.mem_cons_of_mem _ h1, h2⟩

/-! no dict within -/
mutual
theorem Rp.dp : ∀ (d : D) {v : V}, d.canLay0 = true → Rp B H W v d → Dp B.2.2 H v d
  | .none, _, _, h => by cases h; exact .non
  | .bool _, _, _, h => by cases h; exact .bl _
  | .int _, _, _, h => by cases h; exact .int _
  | .str _, _, _, h => by cases h; exact .str _
  | .list ds, _, c, h => by
    cases h with
    | lst r l q => exact .lst r.rm.sq (RpAll.dp ds (by simpa [PyData.canLay0] using c) q)
  | .tuple ds, _, c, h => by
    cases h with
    | tup r n l q => exact .tup (.inl r) (RpAll.dp ds (by simpa [PyData.canLay0] using c) q)
  | .dict _, _, c, _ => by simp [PyData.canLay0] at c
theorem RpAll.dp : ∀ (ds : List D) {vs : List V}, PyData.canLayAll0 ds = true → RpAll B H W vs ds → DpAll B.2.2 H vs ds
  | [], _, _, h => by cases h; exact .nil
  | d :: ds, _, c, h => by
    rw [PyData.canLayAll0, Bool.and_eq_true] at c
    cases h with
    | cons a b => exact .cons (Rp.dp d c.1 a) (RpAll.dp ds c.2 b)
end
theorem Rq.dp {d : D} (c : d.canLay0 = true) (h : Rq B H W v d) : Dp B.2.2 H v d := by
  rcases h with h | ⟨a, xs, ds, rfl, rfl, h1, _, h3⟩ | ⟨_, _, _, _, rfl, _⟩ | ⟨_, _, _, _, rfl, _⟩
  · exact Rp.dp d c h
  · exact .lst (.inl (.inl h1)) (RpAll.dp ds (by simpa [PyData.canLay0] using c) h3)
  · simp [PyData.canLay0] at c
  · simp [PyData.canLay0] at c
end
/-- a new list, frozen -/
theorem VOut.lstF {B : Bs} {H : Hp} {W : Wr} {ds : List D} {xs : List V} {Q : VK} {p : Addr} (h : VOut B H W .fz (.list ds) Q) (hp : H p = none) (r : RpAll B H W xs ds) (l : ds.length ≤ lim) (hW : ∀ a, W a → ∃ o, H a = some o) : Q (.ref p) (upd H p (.lst xs)) :=
  h (.ref p) _ [] (ext_upd hp) (fun a q => nomatch q) List.nodup_nil (.fz (.lst (.inl ⟨.inl upd_same, fun q => by
    rcases q with q | q
    · obtain ⟨o, e⟩ := hW p q
      rw [hp] at e; cases e
    · cases q⟩) l (RpAll.keep (fun a u e _ => ext_upd hp a u e) (fun a q => .inl (q.elim id fun q => nomatch q)) ds r)))
theorem VOut.atom {B : Bs} {H : Hp} {W : Wr} {z : D} {Q : VK} {v : V} {t : T} (h : VOut B H W t z Q) (i : imm z = true) (r : ∀ W', Rp B H W' v z) : Q v H := h.same (.imm i (r _))
theorem VOut.bl {B : Bs} {H : Hp} {W : Wr} {k : Bool} {Q : VK} {t : T} (h : VOut B H W t (.bool k) Q) : Q (.bl k) H := h.atom rfl fun _ => .bl k
theorem VOut.int {B : Bs} {H : Hp} {W : Wr} {k : Int} {Q : VK} {t : T} (h : VOut B H W t (.int k) Q) : Q (.int k) H := h.atom rfl fun _ => .int k
theorem VOut.str {B : Bs} {H : Hp} {W : Wr} {k : Str} {Q : VK} {t : T} (h : VOut B H W t (.str k) Q) (l : k.length ≤ lim) : Q (.str k) H := h.atom rfl fun _ => .str l
theorem VOut.rp {B : Bs} {H : Hp} {W : Wr} {z : D} {Q : VK} {v : V} (h : VOut B H W .fz z Q) (r : Rp B H W v z) : Q v H := h.same (.fz r)

/-! ### lists that are read -/
section
variable {X : Cx} {pins : List (Addr × Obj)} {σ : L2.St} {H : Hp} {s : Shared}
theorem lstR {B : Bs} {l : Addr} {xs : List V} (I : Inv X pins σ H s) (hB : B.2.2 = X.K) (h : Rm B H l xs) : xs.length ≤ sizeLine ∧ ∃ (its : List Value) (n : Nat), Vals xs its ∧ xs.length = its.length ∧ s.heap.get? l = some { cls := .type "list", data := .seq its.toArray n } := by
  rcases h with h | ⟨its, n, e, z, r⟩
  · obtain ⟨z, its, n, r, e⟩ := h.ok I.hok
    exact ⟨z, its, n, r, r.length, e⟩
  · rw [hB] at e
    exact ⟨z, its, n, r, r.length, I.kIn _ _ e⟩
/-- list + list, both only read -/
def rCatR (K : PySem.W.Frag) : R2 := fun x y H Q => ∃ l b xs zs, ∃ B : Bs, B.2.2 = K ∧ x = .ref l ∧ y = .ref b ∧ Rm B H l xs ∧ Rm B H b zs ∧ xs.length + zs.length ≤ sizeLine ∧ ∀ p, H p = none → Q (.ref p) (upd H p (.lst (xs ++ zs)))
theorem op_catR : OpR X (binaryOp .Add) (rCatR X.K) := by
  intro pins s σ H x y v u Q I rx ry h
  obtain ⟨l, b, xs, zs, B, eB, rfl, rfl, hH, hB, hz, q⟩ := h
  cases rx; cases ry
  obtain ⟨_, its, n, r, hl, e⟩ := lstR I eB hH
  obtain ⟨_, jts, m, r2, hl2, e2⟩ := lstR I eB hB
  refine PySem.P.add_list e e2 ?_ (by simp only [List.size_toArray]; omega)
  rw [show its.toArray ++ jts.toArray = (its ++ jts).toArray by simp]
  refine ⟨.ref _, _, I.lnew (t' := s.toks) (r.append r2) ?_, rfl, q _ I.fresh⟩
  simp only [List.length_append]; omega
end

/-! ### arithmetic -/
def addD : D → D → Option D
  | .int i, .int j => some (.int (i + j))
  | .str x, .str y => if x.length + y.length ≤ lim then some (.str (x ++ y)) else none
  | .tuple a, .tuple b => if a.length + b.length ≤ lim then some (.tuple (a ++ b)) else none
  | .list a, .list b => if a.length + b.length ≤ lim then some (.list (a ++ b)) else none
  | _, _ => none
def catD : D → D → Option D
  | .list a, .list b => if a.length + b.length ≤ lim then some (.list (a ++ b)) else none
  | _, _ => none
def rAddA (K : PySem.W.Frag) : R2 := fun x y H Q => (rI0 (fun i j => .int (i + j))) x y H Q ∨ (∃ i j, x = .str i ∧ y = .str j ∧ i.length + j.length ≤ sizeLine ∧ Q (.str (i ++ j)) H) ∨ rCatA K x y H Q ∨ rCatR K x y H Q
theorem op_addA {X : Cx} : OpR X (binaryOp .Add) (rAddA X.K) := op_add.or (op_add_str.or (op_catA.or op_catR))
theorem pv_add {B : Bs} : PV2 B (rAddA B.2.2) .fz addD := by
  intro x y d e H W Q z hx hy hz hW k
  unfold addD at hz
  split at hz
  · cases hz
    exact .inl ⟨_, _, rq_int hx, rq_int hy, k.int⟩
  · obtain ⟨rfl, lx⟩ := rq_str hx
    obtain ⟨rfl, ly⟩ := rq_str hy
    split at hz
    · rename_i hl
      cases hz
      exact .inr (.inl ⟨_, _, rfl, rfl, lim_size hl, k.str (by rw [PySem.Str.length_append]; exact hl)⟩)
    · cases hz
  · split at hz
    · rename_i as bs hl
      cases hz
      obtain ⟨a, xs, rfl, ra, na, la, qa⟩ := rq_tup hx
      obtain ⟨b, ys, rfl, rb, nb, lb, qb⟩ := rq_tup hy
      have e1 := qa.length
      have e2 := qb.length
      refine .inr (.inr (.inl ⟨a, b, xs, ys, rfl, rfl, .inl ra, .inl rb, lim_size (by omega), fun q => ?_, fun _ q => ?_, fun _ _ p hp => k.tup hp (qa.append qb) (by simpa using hl) hW⟩))
      · subst q
        have : as = [] := List.length_eq_zero_iff.mp (by simpa using e1.symm)
        subst this
        exact k.rp (by simpa using .tup rb nb lb qb)
      · subst q
        have : bs = [] := List.length_eq_zero_iff.mp (by simpa using e2.symm)
        subst this
        exact k.rp (by simpa using .tup ra na la qa)
    · cases hz
  · split at hz
    · rename_i as bs hl
      cases hz
      obtain ⟨a, xs, rfl, ra, la, qa⟩ := rq_list hx
      obtain ⟨b, ys, rfl, rb, lb, qb⟩ := rq_list hy
      have e1 := qa.length
      have e2 := qb.length
      exact .inr (.inr (.inr ⟨a, b, xs, ys, B, rfl, rfl, rfl, ra, rb, lim_size (by omega), fun p hp => k.lstF hp (qa.append qb) (by simpa using hl) hW⟩))
    · cases hz
  · cases hz
theorem pv_cat {B : Bs} : PV2 B (rCatR B.2.2) (.lst .fz) catD := by
  intro x y d e H W Q z hx hy hz hW k
  unfold catD at hz
  split at hz
  · split at hz
    · rename_i as bs hl
      cases hz
      obtain ⟨a, xs, rfl, ra, la, qa⟩ := rq_list hx
      obtain ⟨b, ys, rfl, rb, lb, qb⟩ := rq_list hy
      have e1 := qa.length
      have e2 := qb.length
      exact ⟨a, b, xs, ys, B, rfl, rfl, rfl, ra, rb, lim_size (by omega), fun p hp => k.lst hp (qa.append qb) (by simpa using hl)⟩
    · cases hz
  · cases hz
def subD : D → D → Option D
  | .int i, .int j => some (.int (i - j))
  | _, _ => none
theorem pv_sub {B : Bs} : PV2 B (rI0 fun i j => .int (i - j)) .fz subD := by
  intro x y d e H W Q z hx hy hz hW k
  unfold subD at hz
  split at hz
  · cases hz
    exact ⟨_, _, rq_int hx, rq_int hy, k.int⟩
  · cases hz
def smallI (i : Int) : Bool := decide (-(2 ^ 64) < i) && decide (i < 2 ^ 64)
def wideI (i j : Int) : Bool := decide (i.natAbs.log2 + j.natAbs.log2 < 1000000)
theorem wideI_of {i j : Int} {a b : Nat} (ha : i.natAbs < 2 ^ a) (hb : j.natAbs < 2 ^ b) (h0 : 0 < a) (h1 : 0 < b) (h : a + b ≤ 1000000) : wideI i j = true := decide_eq_true (wide_mul ha hb h0 h1 h)
def mulD : D → D → Option D
  | .int i, .int j => if (smallI i || smallI j || wideI i j) = true then some (.int (i * j)) else none
  | .list a, .int k => if (smallK k && decide (a.length * k.toNat ≤ lim)) = true then some (.list (List.replicate k.toNat a).flatten) else none
  | .tuple a, .int k => if (decide (a ≠ []) && decide (2 ≤ k) && decide (k ≤ 1000) && decide (a.length ≤ 1000)) = true then some (.tuple (List.replicate k.toNat a).flatten) else none
  | _, _ => none
where smallK (k : Int) : Bool := decide (-(2 ^ 62) < k) && decide (k < 2 ^ 62)
/-- list * int, the list only read -/
def rRepR : R2 := fun x y H Q => ∃ l k xs, x = .ref l ∧ y = .int k ∧ H l = some (.lst xs) ∧ -(2 ^ 63) ≤ k ∧ k < 2 ^ 63 ∧ xs.length * k.toNat ≤ sizeLine ∧ ∀ p, H p = none → Q (.ref p) (upd H p (.lst (List.replicate k.toNat xs).flatten))
def fdivD : D → D → Option D
  | .int i, .int j => if (decide (0 < j) && decide (j.natAbs.log2 < 9000)) = true then some (.int (i / j)) else none
  | _, _ => none
theorem pv_fdiv {B : Bs} : PV2 B (rI CDivW fun i j => .int (i / j)) .fz fdivD := by
  intro x y d e H W Q z hx hy hz hW k
  unfold fdivD at hz
  split at hz
  · split at hz
    · rename_i h
      cases hz
      simp only [Bool.and_eq_true, decide_eq_true_eq] at h
      exact ⟨_, _, rq_int hx, rq_int hy, h, k.int⟩
    · cases hz
  · cases hz
def modD : D → D → Option D
  | .int i, .int j => if 0 < j then some (.int (i % j)) else none
  | _, _ => none
theorem pv_mod {B : Bs} : PV2 B (rI (fun _ j => 0 < j) fun i j => .int (i % j)) .fz modD := by
  intro x y d e H W Q z hx hy hz hW k
  unfold modD at hz
  split at hz
  · split at hz
    · rename_i h
      cases hz
      exact ⟨_, _, rq_int hx, rq_int hy, h, k.int⟩
    · cases hz
  · cases hz
def powD : D → D → Option D
  | .int i, .int j => if (decide (0 ≤ j) && decide (j ≤ 1000) && decide (i.natAbs < 2 ^ 64)) = true then some (.int (i ^ j.toNat)) else none
  | _, _ => none
theorem pv_pow {B : Bs} : PV2 B (rI CPow fun i j => .int (i ^ j.toNat)) .fz powD := by
  intro x y d e H W Q z hx hy hz hW k
  unfold powD at hz
  split at hz
  · split at hz
    · rename_i h
      cases hz
      simp only [Bool.and_eq_true, decide_eq_true_eq] at h
      exact ⟨_, _, rq_int hx, rq_int hy, ⟨h.1.1, by omega, h.2⟩, k.int⟩
    · cases hz
  · cases hz
def negD : D → Option D
  | .int i => some (.int (-i))
  | _ => none
theorem pv_neg {B : Bs} : PV1 B (rU fun i => .int (-i)) .fz negD := by
  intro x d H W Q z hx hz hW k
  unfold negD at hz
  split at hz
  · cases hz
    exact ⟨_, rq_int hx, k.int⟩
  · cases hz

/-! ### comparisons -/
def eqD (d e : D) : Option D := if (SeqAt.shaped d && SeqAt.shaped e) = true then some (.bool (PyData.eqv d e)) else none
def neD (d e : D) : Option D := if (SeqAt.shaped d && SeqAt.shaped e) = true then some (.bool (!PyData.eqv d e)) else none
theorem pv_eq {B : Bs} : PV2 B (rEqD B.2.2) .fz eqD := by
  intro x y d e H W Q z hx hy hz hW k
  unfold eqD at hz
  split at hz
  · rename_i h
    rw [Bool.and_eq_true] at h
    cases hz
    exact ⟨d, e, hx.dp (SeqAt.canLay_of_shaped h.1), hy.dp (SeqAt.canLay_of_shaped h.2), h.1, h.2, k.bl⟩
  · cases hz
theorem pv_ne {B : Bs} : PV2 B (rNeD B.2.2) .fz neD := by
  intro x y d e H W Q z hx hy hz hW k
  unfold neD at hz
  split at hz
  · rename_i h
    rw [Bool.and_eq_true] at h
    cases hz
    exact ⟨d, e, hx.dp (SeqAt.canLay_of_shaped h.1), hy.dp (SeqAt.canLay_of_shaped h.2), h.1, h.2, k.bl⟩
  · cases hz
def noneD : D → Bool
  | .none => true
  | _ => false
/-- the two can be asked which is less -/
def cmpOk (d e : D) : Bool := SeqAt.shaped d && SeqAt.shaped e && PySem.W.alike d e && !noneD d
def rLtD (K : PySem.W.Frag) (f : D → D → Bool) : R2 := fun x y H Q => ∃ d e, Dp K H x d ∧ Dp K H y e ∧ cmpOk d e = true ∧ Q (.bl (f d e)) H
section
variable {X : Cx}
theorem room_cmp {A : Around} {d e : D} (h : cmpOk d e = true) (hu : A.units + 64 < cLine) : A.units + min d.depth e.depth < cLine := by
  have h1 : d.depth ≤ 64 := by
    have : SeqAt.shaped d = true := by
      unfold cmpOk at h
      simp only [Bool.and_eq_true] at h
      exact h.1.1.1
    exact of_decide_eq_true (Bool.and_eq_true_iff.mp this).2
  omega
theorem cmpOk_alike {d e : D} (h : cmpOk d e = true) : PySem.W.alike d e = true ∧ d ≠ .none := by
  unfold cmpOk at h
  simp only [Bool.and_eq_true, Bool.not_eq_true'] at h
  exact ⟨h.1.2, fun q => by subst q; exact absurd h.2 (by decide)⟩
theorem op_ltD (hu : X.A.units + 64 < cLine) : OpR X (compareOp .Lt) (rLtD X.K fun d e => PySem.W.dataLt d e) := by
  intro pins s σ H x y v u Q I rx ry h
  obtain ⟨d, e, hd, he, c, q⟩ := h
  obtain ⟨as, r1⟩ := Dp.reads I d x v hd rx
  obtain ⟨bs, r2⟩ := Dp.reads I e y u he ry
  exact PySem.W.lt_data r1 r2 (cmpOk_alike c).1 (cmpOk_alike c).2 (room_cmp c hu) ⟨.bl _, H, I, rfl, q⟩
theorem op_leD (hu : X.A.units + 64 < cLine) : OpR X (compareOp .LtE) (rLtD X.K fun d e => !PySem.W.dataLt e d) := by
  intro pins s σ H x y v u Q I rx ry h
  obtain ⟨d, e, hd, he, c, q⟩ := h
  obtain ⟨as, r1⟩ := Dp.reads I d x v hd rx
  obtain ⟨bs, r2⟩ := Dp.reads I e y u he ry
  exact PySem.W.le_data r1 r2 (cmpOk_alike c).1 (cmpOk_alike c).2 (room_cmp c hu) ⟨.bl _, H, I, rfl, q⟩
theorem op_gtD (hu : X.A.units + 64 < cLine) : OpR X (compareOp .Gt) (rLtD X.K fun d e => PySem.W.dataLt e d) := by
  intro pins s σ H x y v u Q I rx ry h
  obtain ⟨d, e, hd, he, c, q⟩ := h
  obtain ⟨as, r1⟩ := Dp.reads I d x v hd rx
  obtain ⟨bs, r2⟩ := Dp.reads I e y u he ry
  exact PySem.W.gt_data r1 r2 (cmpOk_alike c).1 (cmpOk_alike c).2 (room_cmp c hu) ⟨.bl _, H, I, rfl, q⟩
theorem op_geD (hu : X.A.units + 64 < cLine) : OpR X (compareOp .GtE) (rLtD X.K fun d e => !PySem.W.dataLt d e) := by
  intro pins s σ H x y v u Q I rx ry h
  obtain ⟨d, e, hd, he, c, q⟩ := h
  obtain ⟨as, r1⟩ := Dp.reads I d x v hd rx
  obtain ⟨bs, r2⟩ := Dp.reads I e y u he ry
  exact PySem.W.ge_data r1 r2 (cmpOk_alike c).1 (cmpOk_alike c).2 (room_cmp c hu) ⟨.bl _, H, I, rfl, q⟩
end
def ltD (d e : D) : Option D := if cmpOk d e = true then some (.bool (PySem.W.dataLt d e)) else none
def leD (d e : D) : Option D := if cmpOk d e = true then some (.bool (!PySem.W.dataLt e d)) else none
def gtD (d e : D) : Option D := if cmpOk d e = true then some (.bool (PySem.W.dataLt e d)) else none
def geD (d e : D) : Option D := if cmpOk d e = true then some (.bool (!PySem.W.dataLt d e)) else none
theorem pv_cmp {B : Bs} {f : D → D → Bool} : PV2 B (rLtD B.2.2 f) .fz fun d e => if cmpOk d e = true then some (.bool (f d e)) else none := by
  intro x y d e H W Q z hx hy hz hW k
  simp only at hz
  split at hz
  · rename_i h
    cases hz
    have h' := h
    unfold cmpOk at h'
    simp only [Bool.and_eq_true] at h'
    exact ⟨d, e, hx.dp (SeqAt.canLay_of_shaped h'.1.1.1), hy.dp (SeqAt.canLay_of_shaped h'.1.1.2), h, k.bl⟩
  · cases hz
def isN : D → D → Option D
  | d, .none => some (.bool (noneD d))
  | _, _ => none
def notN : D → D → Option D
  | d, .none => some (.bool (!noneD d))
  | _, _ => none
theorem noneD_v {B : Bs} {H : Hp} {W : Wr} {v : V} {d : D} (h : Rq B H W v d) : decide (v = .non) = noneD d := by
  rcases h with h | ⟨_, _, _, rfl, rfl, _⟩ | ⟨_, _, _, rfl, rfl, _⟩ | ⟨_, _, _, rfl, rfl, _⟩
  · cases h <;> rfl
  · rfl
  · rfl
  · rfl
theorem pv_is {B : Bs} : PV2 B (fun x y H Q => y = .non ∧ Q (.bl (decide (x = .non))) H) .fz isN := by
  intro x y d e H W Q z hx hy hz hW k
  unfold isN at hz
  split at hz
  · cases hz
    refine ⟨rq_none hy, ?_⟩
    rw [noneD_v hx]
    exact k.bl
  · cases hz
theorem pv_isnot {B : Bs} : PV2 B (fun x y H Q => y = .non ∧ Q (.bl (!decide (x = .non))) H) .fz notN := by
  intro x y d e H W Q z hx hy hz hW k
  unfold notN at hz
  split at hz
  · cases hz
    refine ⟨rq_none hy, ?_⟩
    rw [noneD_v hx]
    exact k.bl
  · cases hz
end PD

set_option Elab.async false
set_option linter.all false
set_option maxRecDepth 100000
set_option maxHeartbeats 4000000
/-! PDf: more operations: in, places, slices, built-in calls, sorted. -/
namespace PD
open PySem PySem.Spec PyProof.Rows L2

/-! ### in -/
def strIn (x y : Str) : Bool := !(Builtin.Str.occurrences y x 0 y.length 1).isEmpty
def inD : D → D → Option D
  | d, .list es => if (SeqAt.shaped d && SeqAt.shaped (.list es)) = true then some (.bool (es.any fun z => PyData.eqv z d)) else none
  | d, .tuple es => if (SeqAt.shaped d && SeqAt.shaped (.tuple es)) = true then some (.bool (es.any fun z => PyData.eqv z d)) else none
  | .str x, .str y => some (.bool (strIn x y))
  | _, _ => none
def notInD : D → D → Option D
  | d, .list es => if (SeqAt.shaped d && SeqAt.shaped (.list es)) = true then some (.bool (!es.any fun z => PyData.eqv z d)) else none
  | d, .tuple es => if (SeqAt.shaped d && SeqAt.shaped (.tuple es)) = true then some (.bool (!es.any fun z => PyData.eqv z d)) else none
  | .str x, .str y => some (.bool (!strIn x y))
  | _, _ => none
def rInT (K : PySem.W.Frag) (neg : Bool) : R2 := fun x y H Q => ∃ d ds, Dp K H x d ∧ Dp K H y (.tuple ds) ∧ SeqAt.shaped d = true ∧ SeqAt.shaped (.tuple ds) = true ∧ Q (.bl (if neg then !(ds.any fun z => PyData.eqv z d) else ds.any fun z => PyData.eqv z d)) H
section
variable {X : Cx}
theorem op_inT (hu : X.A.units + 65 < cLine) : OpR X (compareOp .In) (rInT X.K false) := by
  intro pins s σ H x y v u Q I rx ry h
  obtain ⟨d, ds, hd, he, sd, se, q⟩ := h
  obtain ⟨as, r1⟩ := Dp.reads I d x v hd rx
  obtain ⟨bs, r2⟩ := Dp.reads I (.tuple ds) y u he ry
  exact SeqAt.in_tuple_reads r2 r1 (SeqAt.canLay_of_shaped se) (SeqAt.canLay_of_shaped sd) (room_in_shaped sd hu) ⟨.bl _, H, I, rfl, q⟩
theorem op_notInT (hu : X.A.units + 65 < cLine) : OpR X (compareOp .NotIn) (rInT X.K true) := by
  intro pins s σ H x y v u Q I rx ry h
  obtain ⟨d, ds, hd, he, sd, se, q⟩ := h
  obtain ⟨as, r1⟩ := Dp.reads I d x v hd rx
  obtain ⟨bs, r2⟩ := Dp.reads I (.tuple ds) y u he ry
  exact SeqAt.notIn_tuple_reads r2 r1 (SeqAt.canLay_of_shaped se) (SeqAt.canLay_of_shaped sd) (room_in_shaped sd hu) ⟨.bl _, H, I, rfl, q⟩
def rInA (K : PySem.W.Frag) : R2 := fun x y H Q => rInD K x y H Q ∨ rInT K false x y H Q ∨ (∃ i j, x = .str i ∧ y = .str j ∧ Q (.bl (!(Builtin.Str.occurrences j i 0 j.length 1).isEmpty)) H)
def rNotInA (K : PySem.W.Frag) : R2 := fun x y H Q => rNotInD K x y H Q ∨ rInT K true x y H Q ∨ (∃ i j, x = .str i ∧ y = .str j ∧ Q (.bl (!(!(Builtin.Str.occurrences j i 0 j.length 1).isEmpty))) H)
theorem op_inA (hu : X.A.units + 65 < cLine) : OpR X (compareOp .In) (rInA X.K) := (op_inD hu).or ((op_inT hu).or op_in_str)
theorem op_notInA (hu : X.A.units + 65 < cLine) : OpR X (compareOp .NotIn) (rNotInA X.K) := (op_notInD hu).or ((op_notInT hu).or op_notIn_str)
end
theorem pv_in {B : Bs} : PV2 B (rInA B.2.2) .fz inD := by
  intro x y d e H W Q z hx hy hz hW k
  unfold inD at hz
  split at hz
  · split at hz
    · rename_i h
      rw [Bool.and_eq_true] at h
      cases hz
      exact .inl ⟨d, _, hx.dp (SeqAt.canLay_of_shaped h.1), hy.dp (SeqAt.canLay_of_shaped h.2), h.1, h.2, k.bl⟩
    · cases hz
  · split at hz
    · rename_i h
      rw [Bool.and_eq_true] at h
      cases hz
      exact .inr (.inl ⟨d, _, hx.dp (SeqAt.canLay_of_shaped h.1), hy.dp (SeqAt.canLay_of_shaped h.2), h.1, h.2, k.bl⟩)
    · cases hz
  · cases hz
    exact .inr (.inr ⟨_, _, (rq_str hx).1, (rq_str hy).1, k.bl⟩)
  · cases hz
theorem pv_notIn {B : Bs} : PV2 B (rNotInA B.2.2) .fz notInD := by
  intro x y d e H W Q z hx hy hz hW k
  unfold notInD at hz
  split at hz
  · split at hz
    · rename_i h
      rw [Bool.and_eq_true] at h
      cases hz
      exact .inl ⟨d, _, hx.dp (SeqAt.canLay_of_shaped h.1), hy.dp (SeqAt.canLay_of_shaped h.2), h.1, h.2, k.bl⟩
    · cases hz
  · split at hz
    · rename_i h
      rw [Bool.and_eq_true] at h
      cases hz
      exact .inr (.inl ⟨d, _, hx.dp (SeqAt.canLay_of_shaped h.1), hy.dp (SeqAt.canLay_of_shaped h.2), h.1, h.2, k.bl⟩)
    · cases hz
  · cases hz
    exact .inr (.inr ⟨_, _, (rq_str hx).1, (rq_str hy).1, k.bl⟩)
  · cases hz

/-! ### places, slices -/
def ixD : D → D → Option D
  | .list ds, .int i => atI ds i
  | .tuple ds, .int i => atI ds i
  | .str x, .int i => (atI x.cps.toList i).map fun c => .str ⟨#[c]⟩
  | _, _ => none
theorem RpAll.atI {B : Bs} {H : Hp} {W : Wr} {ds : List D} {vs : List V} {i : Int} {d : D} (h : RpAll B H W vs ds) (e : atI ds i = some d) : ∃ v, L2.atI vs i = some v ∧ Rp B H W v d := by
  unfold L2.atI at e ⊢
  rw [h.length]
  cases q : ixN ds.length i with
  | none => rw [q] at e; cases e
  | some j =>
    rw [q] at e
    exact h.get e
theorem pv_ix {B : Bs} : PV2 B (rIx B.2.2) .fz ixD := by
  intro x y d e H W Q z hx hy hz hW k
  unfold ixD at hz
  split at hz
  · obtain ⟨a, xs, rfl, ra, la, qa⟩ := rq_list hx
    obtain ⟨v, h1, h2⟩ := qa.atI hz
    exact .inl ⟨a, xs, _, v, rfl, rq_int hy, ra.sq, h1, k.rp h2⟩
  · obtain ⟨a, xs, rfl, ra, na, la, qa⟩ := rq_tup hx
    obtain ⟨v, h1, h2⟩ := qa.atI hz
    exact .inr (.inl ⟨a, xs, _, v, rfl, rq_int hy, .inl ra, h1, k.rp h2⟩)
  · obtain ⟨c, h1, rfl⟩ := Option.map_eq_some_iff.mp hz
    exact .inr (.inr ⟨_, _, c, (rq_str hx).1, rq_int hy, lim_size (rq_str hx).2, h1, k.str (show 1 ≤ lim by decide)⟩)
  · cases hz
def cutD (xs : List D) (lo hi : Option Int) : List D := (xs.drop (HT.sIx xs.length 0 lo)).take (HT.sIx xs.length xs.length hi - HT.sIx xs.length 0 lo)
theorem cutD_length (xs : List D) (lo hi : Option Int) : (cutD xs lo hi).length ≤ xs.length := by
  unfold cutD
  rw [List.length_take, List.length_drop]
  omega
theorem cutD_whole {xs : List D} {lo hi : Option Int} (q1 : HT.sIx xs.length 0 lo = 0) (q2 : HT.sIx xs.length xs.length hi = xs.length) : cutD xs lo hi = xs := by
  unfold cutD
  rw [q1, q2, List.drop_zero, Nat.sub_zero, List.take_length]
theorem RpAll.cut {B : Bs} {H : Hp} {W : Wr} {ds : List D} {vs : List V} {lo hi : Option Int} (h : RpAll B H W vs ds) : RpAll B H W (cutV vs lo hi) (cutD ds lo hi) := by
  unfold cutV cutD
  rw [h.length]
  exact (h.drop _).take _
def slD : D → Option Int → Option Int → Option D
  | .list ds, l, u => some (.list (cutD ds l u))
  | .tuple ds, l, u => some (.tuple (cutD ds l u))
  | .str x, l, u => some (.str (cutS x l u))
  | _, _, _ => none
def slLD : D → Option Int → Option Int → Option D
  | .list ds, l, u => some (.list (cutD ds l u))
  | _, _, _ => none
def rSlAll (K : PySem.W.Frag) : V → Option Int → Option Int → Hp → VK → Prop := fun x lo hi H Q => rSlL K x lo hi H Q ∨ rSlA K x lo hi H Q ∨ rSlS x lo hi H Q
theorem sl_all {X : Cx} : SlR X (rSlAll X.K) := sl_list.or (sl_tupA.or sl_str)
theorem cutS_len (x : Str) (l u : Option Int) : (cutS x l u).length ≤ x.length := by
  show ((x.cps.toList.drop _).take _).toArray.size ≤ _
  rw [List.size_toArray, List.length_take, List.length_drop]
  have : x.cps.toList.length = x.length := by simp [Str.length]
  omega
theorem pv_sl {B : Bs} : PVs B (rSlAll B.2.2) .fz slD := by
  intro x d l u H W Q z hx hz hW k
  unfold slD at hz
  split at hz
  · cases hz
    obtain ⟨a, xs, rfl, ra, la, qa⟩ := rq_list hx
    exact .inl ⟨a, xs, rfl, ra.sq, fun p hp => k.lstF hp qa.cut (Nat.le_trans (cutD_length _ _ _) la) hW⟩
  · cases hz
    obtain ⟨a, xs, rfl, ra, na, la, qa⟩ := rq_tup hx
    refine .inr (.inl ⟨a, xs, rfl, .inl ra, fun ⟨q1, q2⟩ => ?_, fun _ p hp => k.tup hp qa.cut (Nat.le_trans (cutD_length _ _ _) la) hW⟩)
    rw [qa.length] at q1 q2
    rw [cutD_whole q1 q2] at k
    exact k.rp (.tup ra na la qa)
  · cases hz
    exact .inr (.inr ⟨_, (rq_str hx).1, lim_size (rq_str hx).2, k.str (Nat.le_trans (cutS_len _ _ _) (rq_str hx).2)⟩)
  · cases hz
theorem pv_slL {B : Bs} : PVs B (rSlL B.2.2) (.lst .fz) slLD := by
  intro x d l u H W Q z hx hz hW k
  unfold slLD at hz
  split at hz
  · cases hz
    obtain ⟨a, xs, rfl, ra, la, qa⟩ := rq_list hx
    exact ⟨a, xs, rfl, ra.sq, fun p hp => k.lst hp qa.cut (Nat.le_trans (cutD_length _ _ _) la)⟩
  · cases hz
section
variable {X : Cx} {G : Sg} {W : WX} {e : Expr} {lo hi : Option Expr} {pos p2 : Pos} {t : T} {fo : Env → Res Arg} {fl fu : Env → Res (Option Int)} {f : Env → Res D}
def tP (G : Sg) (W : WX) (f : Env → Res (Option Int)) : TO := fun σ H Q => ∃ F ρ, EnvOk G σ ρ H F ∧ Go G W σ (f ρ) H F fun o _ H' _ Fl => Fl = [] → Q o H'
abbrev DP (X : Cx) (G : Sg) (W : WX) (e : Option Expr) (f : Env → Res (Option Int)) : Prop := PO X e (tP G W f)
theorem PO.imp {X : Cx} {e : Option Expr} {t t' : TO} (h : PO X e t) (i : ∀ σ H Q, t' σ H Q → t σ H Q) : PO X e t' := ⟨fun pins s σ H Q I w => h.run pins s σ H Q I (i σ H Q w)⟩
theorem dp_none : DP X G W none pNone := PO.imp po_none fun σ H Q ⟨F, ρ, E, g⟩ => Go.done g E rfl
theorem dp_some (h : DX X G W .fz e f) : DP X G W (some e) (pSome f) := PO.imp (po_some h) fun σ H Q ⟨F, ρ, E, g⟩ => tX_bind E g fun v d ρ1 H1 F1 E1 r g1 _ => by
  cases d with
  | int i => cases r; exact ⟨i, rfl, Go.done g1 E1 rfl⟩
  | _ => exact g1.elim
theorem tP_bind {σ : L2.St} {H : Hp} {F : Nat → List Addr} {ρ : Env} {α : Type} {f : Env → Res (Option Int)} {k : Option Int → Env → Res α} {K : α → Env → Hp → (Nat → List Addr) → List Addr → Prop} {R : Option Int → Hp → Prop} (E : EnvOk G σ ρ H F) (g : Go G W σ (bnd (f ρ) k) H F K)
    (r : ∀ d ρ1 H1 F1, EnvOk G σ ρ1 H1 F1 → Go G W σ (k d ρ1) H1 F1 K → Evo H F H1 F1 [] → R d H1) : tP G W f σ H R := by
  refine ⟨F, ρ, E, (Go.bind g).imp fun d ρ1 H1 F1 Fl ⟨v1, _, E1, g1⟩ hz => ?_⟩
  subst hz
  rw [Sg.add_nil] at E1
  exact r d ρ1 H1 F1 E1 g1 v1
theorem dx_sl {r : V → Option Int → Option Int → Hp → VK → Prop} {gg : D → Option Int → Option Int → Option D} (hr : SlR X r) (pv : PVs G.B r t gg) (ho : DO X G W e fo) (hl : DP X G W lo fl) (hu : DP X G W hi fu) : DX X G W t (.Subscript e (.Slice lo hi none p2) pos) (eSl gg fo fl fu) :=
  PE.imp (pe_slice hr ho hl hu) fun σ H Q ⟨F, ρ, E, g⟩ => tO_bind E g fun x a1 ρ1 H1 F1 E1 o1 g1 _ => tP_bind E1 g1 fun l ρ2 H2 F2 E2 g2 v2 => tP_bind E2 g2 fun u ρ3 H3 F3 E3 g3 v3 => by
    cases e1 : deref ρ3 a1 with
    | none => rw [e1] at g3; exact g3.elim
    | some d1 =>
      simp only [e1] at g3
      cases e3 : gg d1 l u with
      | none => rw [e3] at g3; exact g3.elim
      | some z =>
        rw [e3] at g3
        exact pv x d1 l u H3 (Wof F3 G.O) Q z (((o1.evo v2).evo v3).rq E3 e1) e3 (there_W E3) fun v H' Fl k hn nd o => let ⟨h3, o'⟩ := Go.fin g3 E3 k hn nd o; h3 v o'
end

/-! ### built-in calls -/
theorem rqAll1 {B : Bs} {H : Hp} {W : Wr} {vs : List V} {d : D} (h : RqAll B H W vs [d]) : ∃ v, vs = [v] ∧ Rq B H W v d := by
  cases h with | cons a b => cases b; exact ⟨_, rfl, a⟩
theorem rqAll2 {B : Bs} {H : Hp} {W : Wr} {vs : List V} {d e : D} (h : RqAll B H W vs [d, e]) : ∃ v u, vs = [v, u] ∧ Rq B H W v d ∧ Rq B H W u e := by
  cases h with | cons a b => cases b with | cons c d => cases d; exact ⟨_, _, rfl, a, c⟩
def lenD : List D → Option D
  | [.list ds] => some (.int ds.length)
  | [.tuple ds] => some (.int ds.length)
  | [.str x] => some (.int x.length)
  | _ => none
def rLenA (K : PySem.W.Frag) : List V → Hp → VK → Prop := fun xs H Q => (∃ p ys, xs = [.ref p] ∧ (SqL K H p ys ∨ SqT K H p ys) ∧ Q (.int ys.length) H) ∨ (∃ z, xs = [.str z] ∧ z.length ≤ sizeLine ∧ Q (.int z.length) H)
theorem call_lenA {X : Cx} : CallR X (.builtin "len") (rLenA X.K) := call_len_seq.or call_len_str
theorem pv_len {B : Bs} : PVn B (rLenA B.2.2) .fz lenD := by
  intro xs ds H W Q z hx hz hW k
  unfold lenD at hz
  split at hz
  · cases hz
    obtain ⟨v, rfl, h⟩ := rqAll1 hx
    obtain ⟨a, ys, rfl, ra, la, qa⟩ := rq_list h
    exact .inl ⟨a, ys, rfl, .inl ra.sq, by rw [qa.length]; exact k.int⟩
  · cases hz
    obtain ⟨v, rfl, h⟩ := rqAll1 hx
    obtain ⟨a, ys, rfl, ra, na, la, qa⟩ := rq_tup h
    exact .inl ⟨a, ys, rfl, .inr (.inl ra), by rw [qa.length]; exact k.int⟩
  · cases hz
    obtain ⟨v, rfl, h⟩ := rqAll1 hx
    obtain ⟨rfl, l⟩ := rq_str h
    exact .inr ⟨_, rfl, lim_size l, k.int⟩
  · cases hz
def boolsD : List D → Option (List Bool)
  | [] => some []
  | .bool b :: ds => (boolsD ds).map fun bs => b :: bs
  | _ :: _ => none
theorem boolsD_eq : ∀ {ds : List D} {bs : List Bool}, boolsD ds = some bs → ds = bs.map .bool
  | [], _, h => by cases h; rfl
  | .bool b :: ds, _, h => by
    unfold boolsD at h
    obtain ⟨bs, h1, rfl⟩ := Option.map_eq_some_iff.mp h
    rw [boolsD_eq h1]; rfl
  | .none :: _, _, h => by cases h
  | .int _ :: _, _, h => by cases h
  | .str _ :: _, _, h => by cases h
  | .list _ :: _, _, h => by cases h
  | .tuple _ :: _, _, h => by cases h
  | .dict _ :: _, _, h => by cases h
theorem boolsD_map (bs : List Bool) : boolsD (bs.map .bool) = some bs := by
  induction bs with
  | nil => rfl
  | cons b bs ih => simp [boolsD, ih]
def allD : List D → Option D
  | [.list ds] => (boolsD ds).map fun bs => .bool (bs.all id)
  | _ => none
def anyD : List D → Option D
  | [.list ds] => (boolsD ds).map fun bs => .bool (bs.any id)
  | _ => none
theorem pv_all {B : Bs} : PVn B (rAll B.2.2) .fz allD := by
  intro xs ds H W Q z hx hz hW k
  unfold allD at hz
  split at hz
  · obtain ⟨bs, h1, rfl⟩ := Option.map_eq_some_iff.mp hz
    obtain ⟨v, rfl, h⟩ := rqAll1 hx
    obtain ⟨a, ys, rfl, ra, la, qa⟩ := rq_list h
    rw [boolsD_eq h1] at qa
    exact ⟨a, bs, rfl, (by rw [qa.toBools] at ra; exact ra.sq), k.bl⟩
  · cases hz
theorem pv_any {B : Bs} : PVn B (rAny B.2.2) .fz anyD := by
  intro xs ds H W Q z hx hz hW k
  unfold anyD at hz
  split at hz
  · obtain ⟨bs, h1, rfl⟩ := Option.map_eq_some_iff.mp hz
    obtain ⟨v, rfl, h⟩ := rqAll1 hx
    obtain ⟨a, ys, rfl, ra, la, qa⟩ := rq_list h
    rw [boolsD_eq h1] at qa
    exact ⟨a, bs, rfl, (by rw [qa.toBools] at ra; exact ra.sq), k.bl⟩
  · cases hz
def intsD : List D → Option (List Int)
  | [] => some []
  | .int b :: ds => (intsD ds).map fun bs => b :: bs
  | _ :: _ => none
theorem intsD_eq : ∀ {ds : List D} {bs : List Int}, intsD ds = some bs → ds = bs.map .int
  | [], _, h => by cases h; rfl
  | .int b :: ds, _, h => by
    unfold intsD at h
    obtain ⟨bs, h1, rfl⟩ := Option.map_eq_some_iff.mp h
    rw [intsD_eq h1]; rfl
  | .none :: _, _, h => by cases h
  | .bool _ :: _, _, h => by cases h
  | .str _ :: _, _, h => by cases h
  | .list _ :: _, _, h => by cases h
  | .tuple _ :: _, _, h => by cases h
  | .dict _ :: _, _, h => by cases h
theorem intsD_map (bs : List Int) : intsD (bs.map .int) = some bs := by
  induction bs with
  | nil => rfl
  | cons b bs ih => simp [intsD, ih]
def sumD : List D → Option D
  | [.list ds] => (intsD ds).map fun bs => .int bs.sum
  | _ => none
theorem pv_sum {B : Bs} : PVn B (rSum B.2.2) .fz sumD := by
  intro xs ds H W Q z hx hz hW k
  unfold sumD at hz
  split at hz
  · obtain ⟨bs, h1, rfl⟩ := Option.map_eq_some_iff.mp hz
    obtain ⟨v, rfl, h⟩ := rqAll1 hx
    obtain ⟨a, ys, rfl, ra, la, qa⟩ := rq_list h
    rw [intsD_eq h1] at qa
    exact ⟨a, bs, rfl, (by rw [qa.toInts] at ra; exact ra.sq), k.int⟩
  · cases hz
def min2D : List D → Option D
  | [.int i, .int j] => some (.int (min i j))
  | _ => none
def max2D : List D → Option D
  | [.int i, .int j] => some (.int (max i j))
  | _ => none
theorem pv_min2 {B : Bs} : PVn B (fun xs H Q => ∃ i j, xs = [.int i, .int j] ∧ Q (.int (if j < i then j else i)) H) .fz min2D := by
  intro xs ds H W Q z hx hz hW k
  unfold min2D at hz
  split at hz
  · rename_i i j
    cases hz
    obtain ⟨v, u, rfl, h1, h2⟩ := rqAll2 hx
    refine ⟨i, j, by rw [rq_int h1, rq_int h2], ?_⟩
    have e : (if j < i then j else i) = min i j := by split <;> omega
    rw [e]; exact k.int
  · cases hz
theorem pv_max2 {B : Bs} : PVn B (fun xs H Q => ∃ i j, xs = [.int i, .int j] ∧ Q (.int (if j > i then j else i)) H) .fz max2D := by
  intro xs ds H W Q z hx hz hW k
  unfold max2D at hz
  split at hz
  · rename_i i j
    cases hz
    obtain ⟨v, u, rfl, h1, h2⟩ := rqAll2 hx
    refine ⟨i, j, by rw [rq_int h1, rq_int h2], ?_⟩
    have e : (if j > i then j else i) = max i j := by split <;> omega
    rw [e]; exact k.int
  · cases hz
def listD : List D → Option D
  | [.list ds] => some (.list ds)
  | [.tuple ds] => some (.list ds)
  | _ => none
theorem pv_list {B : Bs} : PVn B (fun xs H Q => ∃ p ys, xs = [.ref p] ∧ (SqL B.2.2 H p ys ∨ SqT B.2.2 H p ys) ∧ ∀ l, H l = none → Q (.ref l) (upd H l (.lst ys))) (.lst .fz) listD := by
  intro xs ds H W Q z hx hz hW k
  unfold listD at hz
  split at hz
  · cases hz
    obtain ⟨v, rfl, h⟩ := rqAll1 hx
    obtain ⟨a, ys, rfl, ra, la, qa⟩ := rq_list h
    exact ⟨a, ys, rfl, .inl ra.sq, fun l hl => k.lst hl qa la⟩
  · cases hz
    obtain ⟨v, rfl, h⟩ := rqAll1 hx
    obtain ⟨a, ys, rfl, ra, na, la, qa⟩ := rq_tup h
    exact ⟨a, ys, rfl, .inr (.inl ra), fun l hl => k.lst hl qa la⟩
  · cases hz
def tupleD : List D → Option D
  | [.list ds] => some (.tuple ds)
  | [.tuple ds] => some (.tuple ds)
  | _ => none
theorem pv_tuple {B : Bs} : PVn B (fun xs H Q => ∃ p ys, xs = [.ref p] ∧ ((SqL B.2.2 H p ys ∧ ∀ l, H l = none → Q (.ref l) (upd H l (.tup ys))) ∨ (SqT B.2.2 H p ys ∧ Q (.ref p) H))) .fz tupleD := by
  intro xs ds H W Q z hx hz hW k
  unfold tupleD at hz
  split at hz
  · cases hz
    obtain ⟨v, rfl, h⟩ := rqAll1 hx
    obtain ⟨a, ys, rfl, ra, la, qa⟩ := rq_list h
    exact ⟨a, ys, rfl, .inl ⟨ra.sq, fun l hl => k.tup hl qa la hW⟩⟩
  · cases hz
    obtain ⟨v, rfl, h⟩ := rqAll1 hx
    obtain ⟨a, ys, rfl, ra, na, la, qa⟩ := rq_tup h
    exact ⟨a, ys, rfl, .inr ⟨.inl ra, k.rp (.tup ra na la qa)⟩⟩
  · cases hz
def intOfD : List D → Option D
  | [.int i] => some (.int i)
  | [.bool b] => some (.int (if b = true then 1 else 0))
  | _ => none
theorem pv_int {B : Bs} : PVn B (fun xs H Q => (∃ i, xs = [.int i] ∧ Q (.int i) H) ∨ ∃ k, xs = [.bl k] ∧ Q (.int (if k then 1 else 0)) H) .fz intOfD := by
  intro xs ds H W Q z hx hz hW k
  unfold intOfD at hz
  split at hz
  · cases hz
    obtain ⟨v, rfl, h⟩ := rqAll1 hx
    exact .inl ⟨_, by rw [rq_int h], k.int⟩
  · cases hz
    obtain ⟨v, rfl, h⟩ := rqAll1 hx
    exact .inr ⟨_, by rw [rq_bool h], k.int⟩
  · cases hz
def strOfD : List D → Option D
  | [.int i] => if (decide (i.natAbs.log2 < 1920) && decide ((toString i : Str).length ≤ lim)) = true then some (.str (toString i)) else none
  | _ => none
theorem pv_str {B : Bs} : PVn B (fun xs H Q => ∃ i, xs = [.int i] ∧ i.natAbs.log2 < 1920 ∧ Q (.str (toString i)) H) .fz strOfD := by
  intro xs ds H W Q z hx hz hW k
  unfold strOfD at hz
  split at hz
  · split at hz
    · rename_i i h
      simp only [Bool.and_eq_true, decide_eq_true_eq] at h
      cases hz
      obtain ⟨v, rfl, h'⟩ := rqAll1 hx
      exact ⟨i, by rw [rq_int h'], h.1, k.str h.2⟩
    · cases hz
  · cases hz

/-! ### sorted -/
def dleD (a b : D) : Bool := !PySem.W.dataLt b a
def neTup : D → Bool
  | .tuple (_ :: _) => true
  | _ => false
def noTup : D → Bool
  | .tuple _ => false
  | .none => false
  | _ => true
def sortOk (ds : List D) : Bool := ds.all (fun a => SeqAt.shaped a) && ds.all (fun a => ds.all fun b => PySem.W.alike a b) && (ds.all neTup || ds.all noTup)
def sortD : List D → Option D
  | [.list ds] => if sortOk ds = true then some (.list (ds.mergeSort dleD)) else none
  | _ => none
/-- sorted of data -/
def rSortD (B : Bs) : List V → Hp → VK → Prop := fun xs H Q => ∃ (a : Addr) (ys : List V) (ds : List D) (W : Wr), xs = [.ref a] ∧ Rm B H a ys ∧ RpAll B H W ys ds ∧ sortOk ds = true ∧ ∀ zs p, RpAll B H W zs (ds.mergeSort dleD) → H p = none → Q (.ref p) (upd H p (.lst zs))
theorem EachIs.paired {R : Value → V × D → Prop} : ∀ {us : List Value} {ps : List (V × D)}, PySem.W.EachIs R us ps → (∀ u p, R u p → RelV p.1 u) → Vals (ps.map (·.1)) us
  | _, _, .nil, _ => .nil
  | _, _, .cons a b, h => .cons (h _ _ a) (EachIs.paired b h)
theorem each_of {B : Bs} {H : Hp} {W : Wr} : ∀ {ys : List V} {ds : List D} {us : List Value}, RpAll B H W ys ds → Vals ys us → PySem.W.EachIs (fun u (p : V × D) => RelV p.1 u) us (ys.zip ds)
  | _, [], _, h, r => by cases h; cases r; exact .nil
  | _, _ :: _, _, h, r => by
    cases h with
    | cons a b => cases r with | cons r1 r2 => exact .cons r1 (each_of b r2)
theorem zip_rp {B : Bs} {H : Hp} {W : Wr} : ∀ {ys : List V} {ds : List D}, RpAll B H W ys ds → ∀ p ∈ ys.zip ds, Rp B H W p.1 p.2
  | _, [], h, p, q => by cases h; simp at q
  | _, _ :: _, h, p, q => by
    cases h with
    | cons a b =>
      rw [List.zip_cons_cons] at q
      rcases List.mem_cons.mp q with rfl | q
      · exact a
      · exact zip_rp b p q
theorem rp_of_pairs {B : Bs} {H : Hp} {W : Wr} : ∀ {ps : List (V × D)}, (∀ p ∈ ps, Rp B H W p.1 p.2) → RpAll B H W (ps.map (·.1)) (ps.map (·.2))
  | [], _ => .nil
  | p :: ps, h => .cons (h p List.mem_cons_self) (rp_of_pairs fun q z => h q (List.mem_cons_of_mem _ z))
theorem zip_snd {B : Bs} {H : Hp} {W : Wr} : ∀ {ys : List V} {ds : List D}, RpAll B H W ys ds → (ys.zip ds).map (·.2) = ds
  | _, [], h => by cases h; rfl
  | _, _ :: _, h => by cases h with | cons a b => simp [zip_snd b]
theorem cr_sortD {X : Cx} (hu : X.A.units + 70 < cLine) : CallR X (.builtin "sorted") (rSortD (BOf X)) := by
  intro pins s σ H vs us Q I r h
  obtain ⟨a, ys, ds, W, rfl, hs, rp, ok, q⟩ := h
  rw [Vals.ref1 r]
  obtain ⟨its, rv, hl, hz⟩ := I.list (show SqL X.K H a ys from hs.sq)
  have ok' := ok
  unfold sortOk at ok'
  simp only [Bool.and_eq_true, List.all_eq_true, Bool.or_eq_true] at ok'
  obtain ⟨⟨shp, alk⟩, ht⟩ := ok'
  have lay : ∀ d ∈ ds, d.canLay0 = true := fun d hd => SeqAt.canLay_of_shaped (shp d hd)
  have dpt : ∀ d ∈ ds, d.depth ≤ 64 := fun d hd => of_decide_eq_true (Bool.and_eq_true_iff.mp (shp d hd)).2
  -- the values read as the data, in any heap that keeps all that stands
  have reads : ∀ h' : Heap, (∀ b o, s.heap.get? b = some o → h'.get? b = some o) → PySem.W.EachIs (fun v d => ∃ as, Reads h' v d as) its ds := by
    intro h' kh
    have go : ∀ {ys : List V} {ds : List D} {us : List Value}, (∀ d ∈ ds, d.canLay0 = true) → RpAll (BOf X) H W ys ds → Vals ys us → PySem.W.EachIs (fun v d => ∃ as, Reads h' v d as) us ds := by
      intro ys ds us hl
      induction ds generalizing ys us with
      | nil => intro h r; cases h; cases r; exact .nil
      | cons d ds ih =>
        intro h r
        cases h with
        | cons a b =>
          cases r with
          | cons r1 r2 =>
            obtain ⟨as, e⟩ := Dp.reads I d _ _ (Rp.dp d (hl d List.mem_cons_self) a) r1
            exact .cons ⟨as, Reads.keeps kh e⟩ (ih (fun d hd => hl d (List.mem_cons_of_mem _ hd)) b r2)
    exact go lay rp rv
  have k1 : ∀ b o, s.heap.get? b = some o → (PySem.W.sortingHeap (PySem.W.copyHeap s.heap its) (s.heap.objs.size + 1) its).get? b = some o := fun b o e =>
    PySem.W.sortingHeap_old (Nat.ne_of_lt (Nat.lt_succ_of_lt (Heap.lt_size e))) (PySem.W.copyHeap_old e)
  have E1 := reads _ k1
  have S : PySem.W.SortsAt X.prog X.w X.A.in1.in1 { s with heap := PySem.W.sortingHeap (PySem.W.copyHeap s.heap its) (s.heap.objs.size + 1) its } (PySem.W.dataKind (PySem.W.sortingHeap (PySem.W.copyHeap s.heap its) (s.heap.objs.size + 1) its) ds) its := by
    refine PySem.W.SortsAt.data E1 (fun d hd d' hd' => alk d hd d' hd') ?_ fun d hd => ?_
    · rcases ht with ht | ht
      · left
        intro d hd
        have := ht d hd
        cases d with
        | tuple xs =>
          cases xs with
          | nil => cases this
          | cons x r => exact ⟨x, r, rfl⟩
        | _ => cases this
      · right
        intro d hd
        have := ht d hd
        refine ⟨fun e => ?_, fun xs e => ?_⟩
        · subst e; cases this
        · subst e; cases this
    · have := dpt d hd
      simp only [Around.in1_units]
      omega
  have hl2 := rv.length
  refine PySem.W.sorted_vals hl.isList S (by omega) ?_
  -- the pairs, sorted
  have ep := PySem.W.sortVals_each (κ := PySem.W.dataKind (PySem.W.sortingHeap (PySem.W.copyHeap s.heap its) (s.heap.objs.size + 1) its) ds) (rev := false) (R := fun u (p : V × D) => RelV p.1 u) (ks := its) (vs := its) (bs := ys.zip ds) (fun p => PySem.W.keyToks p.2) (each_of rp rv) ?_
  · generalize hP : (ys.zip ds).mergeSort _ = ps at ep
    have hperm : ps.Perm (ys.zip ds) := by rw [← hP]; exact List.mergeSort_perm _ _
    have rp2 : RpAll (BOf X) H W (ps.map (·.1)) (ps.map (·.2)) := rp_of_pairs fun p hp => zip_rp rp p (hperm.mem_iff.mp hp)
    have e2 : ps.map (·.2) = ds.mergeSort dleD := by
      rw [← hP]
      have := PySem.W.sort_maps (fun p : V × D => p.2) (r := PySem.W.sortLe (PySem.W.dataKind (PySem.W.sortingHeap (PySem.W.copyHeap s.heap its) (s.heap.objs.size + 1) its) ds).toKeyOrd false fun p : V × D => PySem.W.keyToks p.2) (s := dleD) (l := ys.zip ds) (fun a _ b _ => rfl)
      rw [this, zip_snd rp]
    rw [e2] at rp2
    have vals := EachIs.paired ep fun u p h => h
    generalize PySem.W.sortVals _ _ _ _ = outs at vals ep
    obtain ⟨n, at_⟩ := PyProof.Rows.sortedAll_at s.heap its outs.toArray
    have hlen : (ps.map (·.1)).length ≤ sizeLine := by
      rw [List.length_map, hperm.length_eq, List.length_zip]
      omega
    exact ⟨.ref _, upd H (s.heap.objs.size + 1) (.lst (ps.map (·.1))), I.laid (t' := s.toks) (fun _ _ => PyProof.Rows.sortedAll_old) (Nat.le_succ _) ⟨hlen, outs, n, vals, at_⟩, rfl, q _ _ rp2 (I.hok.fresh (Nat.le_succ _))⟩
  · have go : ∀ {us : List Value} {ys : List V} {es : List D}, (∀ d ∈ es, d ∈ ds) → ys.length = es.length → PySem.W.EachIs (fun v d => ∃ as, Reads (PySem.W.sortingHeap (PySem.W.copyHeap s.heap its) (s.heap.objs.size + 1) its) v d as) us es →
        PySem.W.EachIs (fun v (b : V × D) => (PySem.W.dataKind (PySem.W.sortingHeap (PySem.W.copyHeap s.heap its) (s.heap.objs.size + 1) its) ds).keyOf v = some (PySem.W.keyToks b.2)) us (ys.zip es) := by
      intro us ys es hm hl e
      induction e generalizing ys with
      | nil => simpa using .nil
      | cons x _ ih =>
        cases ys with
        | nil => simp at hl
        | cons y ys =>
          obtain ⟨as, x⟩ := x
          rw [List.zip_cons_cons]
          exact .cons (PySem.W.dataKind_some (fun d hd d' hd' => alk d hd d' hd') (hm _ List.mem_cons_self) x) (ih (fun d hd => hm d (List.mem_cons_of_mem _ hd)) (by simpa using hl))
    exact go (fun d hd => hd) rp.length E1
theorem pv_sort {B : Bs} : PVn B (rSortD B) (.lst .fz) sortD := by
  intro xs ds H W Q z hx hz hW k
  unfold sortD at hz
  split at hz
  · split at hz
    · rename_i es ok
      cases hz
      obtain ⟨v, rfl, h⟩ := rqAll1 hx
      obtain ⟨a, ys, rfl, ra, la, qa⟩ := rq_list h
      exact ⟨a, ys, es, W, rfl, ra, qa, ok, fun zs p r hp => k.lst hp r (by rw [List.length_mergeSort]; exact la)⟩
    · cases hz
  · cases hz
end PD

set_option Elab.async false
set_option linter.all false
set_option maxRecDepth 100000
set_option maxHeartbeats 4000000
/-! PDg: targets, what is walked, list comprehensions. -/
namespace PD
open PySem PySem.Spec PyProof.Rows L2 RZ

def Sg.wO (G : Sg) (O : Wr) : Sg := { G with O := O }

/-! ### targets -/
inductive Tg where
  | nm (i : Nat)
  | tp (ts : List Tg)
mutual
def bindT : Tg → D → Env → Option Env
  | .nm i, d, ρ => if i < ρ.length then some (ρ.set i (some d)) else none
  | .tp ts, .tuple ds, ρ => bindTs ts ds ρ
  | .tp _, _, _ => none
def bindTs : List Tg → List D → Env → Option Env
  | [], [], ρ => some ρ
  | t :: ts, d :: ds, ρ => (bindT t d ρ).bind fun ρ' => bindTs ts ds ρ'
  | _, _, _ => none
end
mutual
def Tg.slots : Tg → List Nat
  | .nm i => [i]
  | .tp ts => slotsL ts
def slotsL : List Tg → List Nat
  | [] => []
  | t :: ts => t.slots ++ slotsL ts
end
theorem bindTs_len : ∀ {ts : List Tg} {ds : List D} {ρ ρ' : Env}, bindTs ts ds ρ = some ρ' → ts.length = ds.length
  | [], [], _, _, _ => rfl
  | t :: ts, d :: ds, ρ, ρ', h => by
    unfold bindTs at h
    obtain ⟨r, _, h2⟩ := Option.bind_eq_some_iff.mp h
    simp [bindTs_len h2]
  | [], _ :: _, _, _, h => by simp [bindTs] at h
  | _ :: _, [], _, _, h => by simp [bindTs] at h
section
variable {G : Sg} {σ : L2.St} {ρ : Env} {H : Hp} {F : Nat → List Addr}
theorem EnvOk.setFz {i : Nat} {v : V} {d : D} (E : EnvOk G σ ρ H F) (r : Rp G.B H (Wof F G.O) v d) (hf : G.Γ i = .fz) (hp : G.pin i = none) (hi : i < ρ.length) : EnvOk G (σ.set i (some v)) (ρ.set i (some d)) H F := by
  have e0 : F i = [] := E.ff i hf
  have eF : updF F i [] = F := by
    funext j
    by_cases e : j = i
    · subst e; rw [updF_same, e0]
    · rw [updF_ne e]
  have q := EnvOk.setOwn (G := G) (Fl := []) (i := i) (v := v) (d := d) (by rw [Sg.add_nil]; exact E) (by rw [Sg.add_nil, hf]; exact .fz r) List.nodup_nil (fun _ z => nomatch z) hp hi
  rw [eF] at q
  exact q
end
/-- a target's reading: what is bound is frozen -/
def tG (G : Sg) (T : Tg) : TG := fun v σ H Q => ∃ F ρ d ρ', EnvOk G σ ρ H F ∧ Rp G.B H (Wof F G.O) v d ∧ bindT T d ρ = some ρ' ∧ ∀ σ', EnvOk G σ' ρ' H F → σ'.length = σ.length → (∀ j, j ∉ T.slots → σ'[j]? = σ[j]?) → Q σ' H
def tGs (G : Sg) (Ts : List Tg) : TGs := fun vs σ H Q => ∃ F ρ ds ρ', EnvOk G σ ρ H F ∧ RpAll G.B H (Wof F G.O) vs ds ∧ bindTs Ts ds ρ = some ρ' ∧ ∀ σ', EnvOk G σ' ρ' H F → σ'.length = σ.length → (∀ j, j ∉ slotsL Ts → σ'[j]? = σ[j]?) → Q σ' H
abbrev DG (X : Cx) (G : Sg) (e : Expr) (T : Tg) : Prop := PG X e (tG G T)
abbrev DGs (X : Cx) (G : Sg) (es : List Expr) (Ts : List Tg) : Prop := PGs X es (tGs G Ts)
theorem PG.imp {X : Cx} {e : Expr} {t t' : TG} (h : PG X e t) (i : ∀ v σ H Q, t' v σ H Q → t v σ H Q) : PG X e t' := ⟨fun pins s σ H v u Q I r w => h.run pins s σ H v u Q I r (i v σ H Q w)⟩
theorem PGs.imp {X : Cx} {e : List Expr} {t t' : TGs} (h : PGs X e t) (i : ∀ v σ H Q, t' v σ H Q → t v σ H Q) : PGs X e t' := ⟨fun pins s σ H v u Q I r w => h.run pins s σ H v u Q I r (i v σ H Q w)⟩
section
variable {X : Cx} {G : Sg} {e : Expr} {es : List Expr} {x : Str} {i : Nat} {pos : Pos} {T : Tg} {Ts : List Tg}
theorem dg_name (hN : X.N.Nodup) (hi : X.N[i]? = some x) (hx : Loc X.env.scope x) (hf : G.Γ i = .fz) (hp : G.pin i = none) (hf' : X.fn x = true ∨ X.env.scope.names.lookup x = some .local) : DG X G (.Name x pos) (.nm i) :=
  PG.imp (pg_name hN hi hx hf') fun v σ H Q ⟨F, ρ, d, ρ', E, r, b, k⟩ => by
    unfold bindT at b
    split at b
    · rename_i hlt
      cases b
      exact k _ (E.setFz r hf hp hlt) (by simp) fun j hj => List.getElem?_set_ne (fun q => hj (by simp [Tg.slots, q]))
    · cases b
theorem dgs_nil : DGs X G [] [] := PGs.imp pgs_nil fun vs σ H Q ⟨F, ρ, ds, ρ', E, r, b, k⟩ => by
  cases ds with
  | nil =>
    cases r
    have b : some ρ = some ρ' := by simpa [bindTs] using b
    cases b
    exact ⟨rfl, k σ E rfl fun _ _ => rfl⟩
  | cons _ _ => simp [bindTs] at b
theorem dgs_cons (h1 : DG X G e T) (h2 : DGs X G es Ts) (hs : (assignEach (e :: es) X.env).map (·.2) = assign e X.env :: (assignEach es X.env).map (·.2) := by rfl) : DGs X G (e :: es) (T :: Ts) :=
  PGs.imp (pgs_cons h1 h2 hs) fun vs σ H Q ⟨F, ρ, ds, ρ', E, r, b, k⟩ => by
    cases ds with
    | nil => simp [bindTs] at b
    | cons d ds =>
      cases r with
      | cons r1 r2 =>
        unfold bindTs at b
        obtain ⟨ρ1, b1, b2⟩ := Option.bind_eq_some_iff.mp b
        refine ⟨_, _, rfl, F, ρ, d, ρ1, E, r1, b1, fun σ1 E1 l1 q1 => ⟨F, ρ1, ds, ρ', E1, r2, b2, fun σ2 E2 l2 q2 => k σ2 E2 (l2.trans l1) fun j hj => ?_⟩⟩
        simp only [slotsL, List.mem_append, not_or] at hj
        rw [q2 j hj.2, q1 j hj.1]
theorem dg_tup {k n : Nat} (hc : X.calm = true) (h : DGs X G es Ts) (hn : (assignEach es X.env).length = n) (hst : (assignEach es X.env).findIdx? (·.1) = none) (hl : Ts.length = n) : DG X G (.Tuple es k pos) (.tp Ts) :=
  PG.imp (pg_tup hc h hn hst) fun v σ H Q ⟨F, ρ, d, ρ', E, r, b, kk⟩ => by
    cases d with
    | tuple ds =>
      cases r with
      | tup rd nw l q =>
        have b' : bindTs Ts ds ρ = some ρ' := by simpa [bindT] using b
        exact ⟨_, _, rfl, .inl rd, by rw [q.length, ← bindTs_len b', hl], F, ρ, ds, ρ', E, q, b', fun σ' E' l' q' => kk σ' E' l' (by simpa [Tg.slots] using q')⟩
    | _ => simp [bindT] at b
end

/-! ### what is walked -/
def Walks (G : Sg) (J : It) (ds : List D) (H1 : Hp) (F1 : Nat → List Addr) : Prop :=
  ∀ (P : Wr) H' F', (∀ a, P a → H1 a = none) → Evo H1 F1 H' F' [] → (∀ a, Wof F' (fun a => G.O a ∨ P a) a → ∃ o, H' a = some o) → ∀ i,
    (i < ds.length → J.go i H' ∧ ∀ x H'', J.yld i H' x H'' → Ext H' H'' ∧ ∃ d, ds[i]? = some d ∧ Rp G.B H'' (Wof F' (fun a => G.O a ∨ P a)) x d) ∧ (ds.length ≤ i → J.stop i H')
def tI (G : Sg) (W : WX) (f : Env → Res (List D)) : TI := fun σ H R => ∃ F ρ, EnvOk G σ ρ H F ∧
  Go G W σ (f ρ) H F fun ds _ H' F' Fl => Fl = [] → ds.length ≤ lim → ∀ J, Walks G J ds H' F' → R J H'
abbrev DI (X : Cx) (G : Sg) (W : WX) (tg iter : Expr) (f : Env → Res (List D)) : Prop := PI X tg iter (tI G W f)
theorem PI.imp {X : Cx} {tg e : Expr} {t t' : TI} (h : PI X tg e t) (i : ∀ σ H Q, t' σ H Q → t σ H Q) : PI X tg e t' := ⟨fun pins s σ H Q I w => h.run pins s σ H Q I (i σ H Q w)⟩
def chD (c : Nat) : D := .str ⟨#[c]⟩
/-- the items of a thing that is walked -/
def itemsD : D → Option (List D)
  | .list ds => some ds
  | .tuple ds => some ds
  | .str x => some (x.cps.toList.map chD)
  | _ => none
def iOf (f : Env → Res D) : Env → Res (List D) := fun ρ => bnd (f ρ) fun d ρ1 => ofO (itemsD d) ρ1
def rgD (a b : Int) : List D := (List.range (b - a).toNat).map fun i => .int (a + (i : Nat))
def rgOk (a b : Int) : Bool := decide (-(2 ^ 62) ≤ a) && decide (a < 2 ^ 62) && decide (-(2 ^ 62) ≤ b) && decide (b < 2 ^ 62) && decide ((b - a).toNat ≤ lim)
def rgItems : D → D → Option (List D)
  | .int a, .int b => if rgOk a b = true then some (rgD a b) else none
  | _, _ => none
def iRg1 (f : Env → Res D) : Env → Res (List D) := fun ρ => bnd (f ρ) fun d ρ1 => ofO (rgItems (.int 0) d) ρ1
def iRg2 (f g : Env → Res D) : Env → Res (List D) := fun ρ => bnd (f ρ) fun d ρ1 => bnd (g ρ1) fun e ρ2 => ofO (rgItems d e) ρ2
def zipD (a b : List D) : List D := (a.zip b).map fun p => .tuple [p.1, p.2]
def zipItems : D → D → Option (List D)
  | .list a, .list b => some (zipD a b)
  | .tuple a, .tuple b => some (zipD a b)
  | _, _ => none
def iZipD (f g : Env → Res D) : Env → Res (List D) := fun ρ => bnd (f ρ) fun d ρ1 => bnd (g ρ1) fun e ρ2 => ofO (zipItems d e) ρ2
theorem zipD_at {a b : List D} {i : Nat} (h1 : i < a.length) (h2 : i < b.length) : (zipD a b)[i]? = some (.tuple [a[i], b[i]]) := by
  unfold zipD
  rw [List.getElem?_map, (List.getElem?_zip_eq_some (z := (a[i], b[i]))).mpr ⟨List.getElem?_eq_getElem h1, List.getElem?_eq_getElem h2⟩]
  rfl
def enumD (ds : List D) : List D := (ds.zipIdx).map fun p => .tuple [.int (p.2 : Nat), p.1]
section
variable {G : Sg} {H1 : Hp} {F1 : Nat → List Addr}
theorem Rp.walk {P : Wr} {H' : Hp} {F' : Nat → List Addr} {v : V} {d : D} (r : Rp G.B H1 (Wof F1 G.O) v d) (hP : ∀ a, P a → H1 a = none) (e : Evo H1 F1 H' F' []) : Rp G.B H' (Wof F' fun a => G.O a ∨ P a) v d :=
  Rp.keep e.k1 (fun a z => by
    rcases z with z | z | z
    · exact (e.new a (.inl z)).imp .inl id
    · exact .inl (.inr z)
    · exact .inr (hP a z)) d r
theorem Rl.evo {B : Bs} {O : Wr} {H H' : Hp} {F F' : Nat → List Addr} {Fl : List Addr} {a : Addr} {xs : List V} (r : Rl B H (Wof F O) a xs) (e : Evo H F H' F' Fl) : SqL B.2.2 H' a xs := by
  rcases r with ⟨rd, nw⟩ | k
  · exact .inl (rd_keep rd fun o z => e.k1 a o z nw)
  · exact k.sq
theorem walks_list {a : Addr} {xs : List V} {ds : List D} (rd : Rl G.B H1 (Wof F1 G.O) a xs) (q : RpAll G.B H1 (Wof F1 G.O) xs ds) : Walks G (Itl G.B.2.2 a) ds H1 F1 := by
  intro P H' F' hP e hW i
  have s' : SqL G.B.2.2 H' a xs := rd.evo e
  refine ⟨fun hi => ?_, fun hi => ⟨xs, s', by rw [q.length]; exact hi⟩⟩
  obtain ⟨v, hv, r⟩ := q.get (List.getElem?_eq_getElem hi)
  refine ⟨⟨xs, v, s', hv⟩, fun x H'' ⟨eH, hx⟩ => ?_⟩
  subst eH
  have := hx xs s'
  rw [hv] at this
  cases this
  exact ⟨fun _ _ z => z, ds[i], List.getElem?_eq_getElem hi, r.walk hP e⟩
theorem walks_tup {K : PySem.W.Frag} {a : Addr} {xs : List V} {ds : List D} (rd : Rd H1 a (.tup xs)) (nw : ¬ Wof F1 G.O a) (q : RpAll G.B H1 (Wof F1 G.O) xs ds) : Walks G (Itt K a) ds H1 F1 := by
  intro P H' F' hP e hW i
  have s' : SqT K H' a xs := .inl (rd_keep rd fun o z => e.k1 a o z nw)
  refine ⟨fun hi => ?_, fun hi => ⟨xs, s', by rw [q.length]; exact hi⟩⟩
  obtain ⟨v, hv, r⟩ := q.get (List.getElem?_eq_getElem hi)
  refine ⟨⟨xs, v, s', hv⟩, fun x H'' ⟨eH, hx⟩ => ?_⟩
  subst eH
  have := hx xs s'
  rw [hv] at this
  cases this
  exact ⟨fun _ _ z => z, ds[i], List.getElem?_eq_getElem hi, r.walk hP e⟩
theorem walks_str {x : Str} : Walks G (Its x) (x.cps.toList.map chD) H1 F1 := by
  intro P H' F' hP e hW i
  have hl : (x.cps.toList.map chD).length = x.cps.size := by simp
  refine ⟨fun hi => ⟨by rw [hl] at hi; exact hi, fun v H'' ⟨eH, c, hc, hv⟩ => ?_⟩, fun hi => by rw [hl] at hi; exact hi⟩
  subst eH
  subst hv
  exact ⟨fun _ _ z => z, chD c, by rw [List.getElem?_map, Array.getElem?_toList, hc]; rfl, .str (show 1 ≤ lim by decide)⟩
theorem walks_rng {a b : Int} : Walks G (Itr a (b - a).toNat) (rgD a b) H1 F1 := by
  intro P H' F' hP e hW i
  have hl : (rgD a b).length = (b - a).toNat := by simp [rgD]
  refine ⟨fun hi => ⟨by rw [hl] at hi; exact hi, fun v H'' ⟨eH, hv⟩ => ?_⟩, fun hi => by rw [hl] at hi; exact hi⟩
  subst eH
  subst hv
  refine ⟨fun _ _ z => z, .int (a + i), ?_, .int _⟩
  rw [hl] at hi
  simp [rgD, hi]
theorem new_pair {B : Bs} {H' : Hp} {W : Wr} {p : Addr} {x y : V} {d e : D} (hW : ∀ a, W a → ∃ o, H' a = some o) (hp : H' p = none) (r1 : Rp B H' W x d) (r2 : Rp B H' W y e) : Rp B (upd H' p (.tup [x, y])) W (.ref p) (.tuple [d, e]) :=
  .tup (.inl upd_same) (fun q => by
    obtain ⟨o, z⟩ := hW p q
    rw [hp] at z; cases z) (show 2 ≤ lim by decide) (.cons (r1.ext (ext_upd hp)) (.cons (r2.ext (ext_upd hp)) .nil))
theorem walks_zipL {a b : Addr} {xs ys : List V} {ds es : List D} (rd : Rl G.B H1 (Wof F1 G.O) a xs) (q : RpAll G.B H1 (Wof F1 G.O) xs ds) (rd' : Rl G.B H1 (Wof F1 G.O) b ys) (q' : RpAll G.B H1 (Wof F1 G.O) ys es) : Walks G (Itz G.B.2.2 a b) (zipD ds es) H1 F1 := by
  intro P H' F' hP e hW i
  have s' : SqL G.B.2.2 H' a xs := rd.evo e
  have s2 : SqL G.B.2.2 H' b ys := rd'.evo e
  have hl : (zipD ds es).length = min ds.length es.length := by simp [zipD]
  refine ⟨fun hi => ?_, fun hi => ⟨xs, ys, s', s2, by rw [q.length, q'.length]; omega⟩⟩
  have h1 : i < ds.length := by omega
  have h2 : i < es.length := by omega
  obtain ⟨v, hv, r⟩ := q.get (List.getElem?_eq_getElem h1)
  obtain ⟨u, hu, r'⟩ := q'.get (List.getElem?_eq_getElem h2)
  refine ⟨⟨xs, ys, v, u, s', s2, hv, hu⟩, fun x H'' ⟨T, x1, x2, ex, hT, eH, k1, k2⟩ => ?_⟩
  have z1 := k1 xs s'
  have z2 := k2 ys s2
  rw [hv] at z1
  rw [hu] at z2
  cases z1; cases z2
  subst ex
  subst eH
  exact ⟨ext_upd hT, .tuple [ds[i], es[i]], zipD_at h1 h2, new_pair hW hT (r.walk hP e) (r'.walk hP e)⟩
theorem walks_zipT {K : PySem.W.Frag} {a b : Addr} {xs ys : List V} {ds es : List D} (rd : Rd H1 a (.tup xs)) (nw : ¬ Wof F1 G.O a) (q : RpAll G.B H1 (Wof F1 G.O) xs ds) (rd' : Rd H1 b (.tup ys)) (nw' : ¬ Wof F1 G.O b) (q' : RpAll G.B H1 (Wof F1 G.O) ys es) : Walks G (ItzT K a b) (zipD ds es) H1 F1 := by
  intro P H' F' hP e hW i
  have s' : SqT K H' a xs := .inl (rd_keep rd fun o z => e.k1 a o z nw)
  have s2 : SqT K H' b ys := .inl (rd_keep rd' fun o z => e.k1 b o z nw')
  have hl : (zipD ds es).length = min ds.length es.length := by simp [zipD]
  refine ⟨fun hi => ?_, fun hi => ⟨xs, ys, s', s2, by rw [q.length, q'.length]; omega⟩⟩
  have h1 : i < ds.length := by omega
  have h2 : i < es.length := by omega
  obtain ⟨v, hv, r⟩ := q.get (List.getElem?_eq_getElem h1)
  obtain ⟨u, hu, r'⟩ := q'.get (List.getElem?_eq_getElem h2)
  refine ⟨⟨xs, ys, v, u, s', s2, hv, hu⟩, fun x H'' ⟨T, x1, x2, ex, hT, eH, k1, k2⟩ => ?_⟩
  have z1 := k1 xs s'
  have z2 := k2 ys s2
  rw [hv] at z1
  rw [hu] at z2
  cases z1; cases z2
  subst ex
  subst eH
  exact ⟨ext_upd hT, .tuple [ds[i], es[i]], zipD_at h1 h2, new_pair hW hT (r.walk hP e) (r'.walk hP e)⟩
end
section
variable {X : Cx} {G : Sg} {W : WX} {tg e e2 : Expr} {f g : Env → Res D} {pos p : Pos}
/-- a list, a tuple or a text walked: whichever it is -/
theorem pi_any {te : TE} (he : PE X e te) : PI X tg e fun σ H R => te σ H fun x H1 => (∃ a, x = .ref a ∧ (∃ xs, SqL X.K H1 a xs) ∧ R (Itl X.K a) H1) ∨ (∃ a, x = .ref a ∧ (∃ xs, SqT X.K H1 a xs) ∧ R (Itt X.K a) H1) ∨ ∃ z, x = .str z ∧ R (Its z) H1 := by
  have key : ∀ (v : V), PE X e (fun σ H Q => te σ H fun x H1 => Q x H1) := fun _ => he
  refine ⟨fun pins s σ H R I h => ?_⟩
  refine thn (he.run pins s σ H _ I h) fun v s1 ⟨x, H1, I1, r1, q1⟩ => ?_
  rcases q1 with ⟨a, rfl, ⟨xs, hq⟩, q⟩ | ⟨a, rfl, ⟨xs, hq⟩, q⟩ | ⟨z, rfl, q⟩
  · cases r1
    obtain ⟨its, rv, p, hz⟩ := I1.list hq
    refine wpAny_pyIter_list p.isList ⟨s1.heap.objs.size, [s1.heap.objs.size], _, _, H1, rfl, I1.kept (t' := s1.toks) fun b o e => Heap.get?_push_of_some _ e, turn_list a _, ⟨_, Heap.get?_push_size _ rfl, rfl, rfl⟩, fun b hb => ?_, q⟩
    rw [List.mem_singleton.mp hb]
    exact I1.fpOk (Nat.le_refl _) (I1.hok.fresh (Nat.le_refl _))
  · cases r1
    obtain ⟨its, rv, p, hz⟩ := I1.tuple hq
    refine wpAny_pyIter_tuple (show s1.heap.IsTuple a its.toArray from p) ⟨s1.heap.objs.size, [s1.heap.objs.size], _, _, H1, rfl, I1.kept (t' := s1.toks) fun b o e => Heap.get?_push_of_some _ e, turn_tuple a _, ⟨_, Heap.get?_push_size _ rfl, rfl, rfl⟩, fun b hb => ?_, q⟩
    rw [List.mem_singleton.mp hb]
    exact I1.fpOk (Nat.le_refl _) (I1.hok.fresh (Nat.le_refl _))
  · obtain ⟨t, rfl⟩ := r1
    cases ha : z.cps.all (· < 128)
    · exact wpAny_pyIter_wide ha (pi_one (tk := s1.toks) I1 _ (turn_str _ z t "str_iterator" (.inr rfl)) ⟨_, Heap.get?_push_size _ rfl, rfl, rfl⟩ q)
    · exact wpAny_pyIter_ascii ha (pi_one (tk := s1.toks) I1 _ (turn_str _ z t "str_ascii_iterator" (.inl rfl)) ⟨_, Heap.get?_push_size _ rfl, rfl, rfl⟩ q)
theorem di_of (hB : G.B.2.2 = X.K) (h : DX X G W .fz e f) : DI X G W tg e (iOf f) := PI.imp (pi_any h) fun σ H R ⟨F, ρ, E, g⟩ => tX_bind E g fun v d ρ1 H1 F1 E1 r g1 _ => by
  cases d with
  | list ds =>
    cases r with
    | lst rd l q => rw [← hB]; exact .inl ⟨_, rfl, ⟨_, rd.rm.sq⟩, Go.done g1 E1 rfl l _ (walks_list rd q)⟩
  | tuple ds =>
    cases r with
    | tup rd nw l q => exact .inr (.inl ⟨_, rfl, ⟨_, .inl rd⟩, Go.done g1 E1 rfl l _ (walks_tup rd nw q)⟩)
  | str x =>
    cases r with
    | str l => exact .inr (.inr ⟨_, rfl, Go.done g1 E1 rfl (by simpa [Str.length] using l) _ walks_str⟩)
  | _ => exact g1.elim
theorem rgOk_of {a b : Int} (h : rgOk a b = true) : -(2 ^ 62) ≤ a ∧ a < 2 ^ 62 ∧ -(2 ^ 62) ≤ b ∧ b < 2 ^ 62 ∧ (b - a).toNat ≤ lim := by
  unfold rgOk at h
  simp only [Bool.and_eq_true, decide_eq_true_eq] at h
  exact ⟨h.1.1.1.1, h.1.1.1.2, h.1.1.2, h.1.2, h.2⟩
theorem rgD_len (a b : Int) : (rgD a b).length = (b - a).toNat := by simp [rgD]
theorem pa_one {t : TE} (he : PE X e t) (hs : starEach (e :: []) X.env = (false, eval e X.env) :: starEach [] X.env := by rfl) : PA X [e] (tCons t tNil) := pa_cons he pa_nil hs
theorem di_range1 (hg : Gl X "range") (hm : X.mg "range" = none) (h : DX X G W .fz e f) (hs : starEach [e] X.env = [(false, eval e X.env)] := by rfl) : DI X G W tg (.Call (.Name "range" p) [e] [] pos) (iRg1 f) :=
  PI.imp (pi_range1 hg hm (pa_cons h pa_nil hs) hs) fun σ H R ⟨F, ρ, E, g⟩ => tX_bind E g fun v d ρ1 H1 F1 E1 r g1 _ => by
    cases d with
    | int b =>
      cases r
      unfold rgItems at g1
      simp only at g1
      split at g1
      · rename_i ok
        obtain ⟨q1, q2, q3, q4, q5⟩ := rgOk_of ok
        refine ⟨b, rfl, q3, q4, Go.done g1 E1 rfl (by rw [rgD_len]; exact q5) _ ?_⟩
        have := walks_rng (G := G) (H1 := H1) (F1 := F1) (a := 0) (b := b)
        rw [Int.sub_zero] at this
        exact this
      · exact g1.elim
    | _ => exact g1.elim
theorem di_range2 (hg : Gl X "range") (hm : X.mg "range" = none) (h : DX X G W .fz e f) (h2 : DX X G W .fz e2 g) (hs : starEach [e, e2] X.env = (false, eval e X.env) :: starEach [e2] X.env := by rfl) (hs2 : starEach [e2] X.env = (false, eval e2 X.env) :: starEach [] X.env := by rfl) (hs3 : starEach [e, e2] X.env = [(false, eval e X.env), (false, eval e2 X.env)] := by rfl) (hs4 : starEach [e2] X.env = [(false, eval e2 X.env)] := by rfl) :
    DI X G W tg (.Call (.Name "range" p) [e, e2] [] pos) (iRg2 f g) :=
  PI.imp (pi_range2 hg hm (pa_cons h (pa_cons h2 pa_nil hs2) hs) hs3 hs4) fun σ H R ⟨F, ρ, E, g⟩ => tX_bind E g fun v d ρ1 H1 F1 E1 r g1 _ => tX_bind E1 g1 fun u d2 ρ2 H2 F2 E2 r2 g2 v2 => by
    cases d with
    | int a =>
      cases d2 with
      | int b =>
        cases r
        cases r2
        unfold rgItems at g2
        simp only at g2
        split at g2
        · rename_i ok
          obtain ⟨q1, q2, q3, q4, q5⟩ := rgOk_of ok
          exact ⟨a, b, rfl, ⟨q1, q2, q3, q4⟩, Go.done g2 E2 rfl (by rw [rgD_len]; exact q5) _ walks_rng⟩
        · exact g2.elim
      | _ => exact g2.elim
    | _ => exact g2.elim
theorem di_zip {elts : List Expr} {kk : Nat} {tpos : Pos} (hB : G.B.2.2 = X.K) (hg : Gl X "zip") (hm : X.mg "zip" = none) (h : DX X G W .fz e f) (h2 : DX X G W .fz e2 g) (hs : starEach [e, e2] X.env = (false, eval e X.env) :: starEach [e2] X.env := by rfl) (hs2 : starEach [e2] X.env = (false, eval e2 X.env) :: starEach [] X.env := by rfl) (hpl : (backTo pos (starEach [e2] X.env)).any (·.1) = false := by rfl) :
    DI X G W (.Tuple elts kk tpos) (.Call (.Name "zip" p) [e, e2] [] pos) (iZipD f g) :=
  PI.imp (pi_zipA hg hm (pa_cons h (pa_cons h2 pa_nil hs2) hs) hs hpl) fun σ H R ⟨F, ρ, E, g⟩ => tX_bind E g fun v d ρ1 H1 F1 E1 r g1 _ => tX_bind E1 g1 fun u d2 ρ2 H2 F2 E2 r2 g2 v2 => by
    have r1' := r.evo v2
    cases d with
    | list ds =>
      cases d2 with
      | list es =>
        cases r1' with
        | lst rd l q =>
          cases r2 with
          | lst rd' l' q' => rw [← hB]; exact ⟨_, _, _, _, rfl, .inl ⟨rd.rm.sq, rd'.rm.sq, Go.done g2 E2 rfl (by simp [zipD]; omega) _ (walks_zipL rd q rd' q')⟩⟩
      | _ => exact g2.elim
    | tuple ds =>
      cases d2 with
      | tuple es =>
        cases r1' with
        | tup rd nw l q =>
          cases r2 with
          | tup rd' nw' l' q' => exact ⟨_, _, _, _, rfl, .inr ⟨.inl rd, .inl rd', Go.done g2 E2 rfl (by simp [zipD]; omega) _ (walks_zipT rd nw q rd' nw' q')⟩⟩
      | _ => exact g2.elim
    | _ => cases d2 <;> exact g2.elim
end
end PD

set_option Elab.async false
set_option linter.all false
set_option maxRecDepth 100000
set_option maxHeartbeats 4000000
/-! PDh: list comprehensions. -/
namespace PD
open PySem PySem.Spec PyProof.Rows L2 RZ

def wipeD (ρ : Env) : List Nat → Env
  | [] => ρ
  | v :: vs => (wipeD ρ vs).set v none
def resD (ρ0 : Env) (ρe : Env) : List Nat → Env
  | [] => ρe
  | v :: vs => (resD ρ0 ρe vs).set v ((ρ0[v]?).getD none)
def lcGo (T : Tg) (cond : Env → Res Bool) (elt : Env → Res D) (own : List Nat) : List D → Env → Res (List D)
  | [], ρ => .ok [] ρ
  | d :: ds, ρ => match bindT T d ρ with
    | none => .err
    | some ρ1 => bnd (cond ρ1) fun b ρ2 => if b = true then bnd (elt ρ2) fun y ρ3 => bnd (lcGo T cond elt own ds (wipeD ρ3 own)) fun ys ρ4 => .ok (y :: ys) ρ4
      else lcGo T cond elt own ds (wipeD ρ2 own)
def noX {α : Type} : Res α → Res α
  | .ok a ρ => .ok a ρ
  | _ => .err
def eLc (fi : Env → Res (List D)) (T : Tg) (cond : Env → Res Bool) (elt : Env → Res D) (own : List Nat) : Env → Res D := fun ρ => bnd (fi ρ) fun ds ρ1 => bnd (noX (lcGo T cond elt own ds (wipeD ρ1 own))) fun ys ρ2 => .ok (.list ys) (resD ρ1 ρ2 own)
def bYes : Env → Res Bool := fun ρ => .ok true ρ

theorem wipe_len (σ : L2.St) (vs : List Nat) : (wipe σ vs).length = σ.length := wipe_length σ vs
theorem wipeD_len (ρ : Env) : ∀ vs : List Nat, (wipeD ρ vs).length = ρ.length
  | [] => rfl
  | v :: vs => by unfold wipeD; rw [List.length_set, wipeD_len ρ vs]
theorem wipe_at_in (σ : L2.St) : ∀ (vs : List Nat) (j : Nat), j ∈ vs → j < σ.length → (wipe σ vs)[j]? = some none
  | v :: vs, j, h, hl => by
    unfold wipe
    by_cases e : v = j
    · subst e
      exact List.getElem?_set_self (by rw [wipe_len]; exact hl)
    · rw [List.getElem?_set_ne e]
      rcases List.mem_cons.mp h with h | h
      · exact absurd h.symm e
      · exact wipe_at_in σ vs j h hl
theorem wipe_at_out (σ : L2.St) : ∀ (vs : List Nat) (j : Nat), j ∉ vs → (wipe σ vs)[j]? = σ[j]?
  | [], _, _ => rfl
  | v :: vs, j, h => by
    unfold wipe
    simp only [List.mem_cons, not_or] at h
    rw [List.getElem?_set_ne (Ne.symm h.1)]
    exact wipe_at_out σ vs j h.2
theorem wipeD_at_in (ρ : Env) : ∀ (vs : List Nat) (j : Nat), j ∈ vs → (wipeD ρ vs)[j]? = some none ∨ (wipeD ρ vs)[j]? = none
  | v :: vs, j, h => by
    unfold wipeD
    by_cases e : v = j
    · subst e
      by_cases hl : v < (wipeD ρ vs).length
      · exact .inl (List.getElem?_set_self hl)
      · exact .inr (List.getElem?_eq_none (by simpa using hl))
    · rw [List.getElem?_set_ne e]
      rcases List.mem_cons.mp h with h | h
      · exact absurd h.symm e
      · exact wipeD_at_in ρ vs j h
theorem wipeD_at_out (ρ : Env) : ∀ (vs : List Nat) (j : Nat), j ∉ vs → (wipeD ρ vs)[j]? = ρ[j]?
  | [], _, _ => rfl
  | v :: vs, j, h => by
    unfold wipeD
    simp only [List.mem_cons, not_or] at h
    rw [List.getElem?_set_ne (Ne.symm h.1)]
    exact wipeD_at_out ρ vs j h.2
theorem resD_len (ρ0 ρe : Env) : ∀ vs : List Nat, (resD ρ0 ρe vs).length = ρe.length
  | [] => rfl
  | v :: vs => by unfold resD; rw [List.length_set, resD_len ρ0 ρe vs]
theorem resD_at_in (ρ0 ρe : Env) (hl : ρ0.length = ρe.length) : ∀ (vs : List Nat) (j : Nat), j ∈ vs → (resD ρ0 ρe vs)[j]? = ρ0[j]?
  | v :: vs, j, h => by
    unfold resD
    by_cases e : v = j
    · subst e
      by_cases hv : v < ρ0.length
      · rw [List.getElem?_set_self (by rw [resD_len]; omega), List.getElem?_eq_getElem hv]
        rfl
      · rw [List.getElem?_eq_none (by rw [List.length_set, resD_len]; omega), List.getElem?_eq_none (by omega)]
    · rw [List.getElem?_set_ne e]
      rcases List.mem_cons.mp h with h | h
      · exact absurd h.symm e
      · exact resD_at_in ρ0 ρe hl vs j h
theorem resD_at_out (ρ0 ρe : Env) : ∀ (vs : List Nat) (j : Nat), j ∉ vs → (resD ρ0 ρe vs)[j]? = ρe[j]?
  | [], _, _ => rfl
  | v :: vs, j, h => by
    unfold resD
    simp only [List.mem_cons, not_or] at h
    rw [List.getElem?_set_ne (Ne.symm h.1)]
    exact resD_at_out ρ0 ρe vs j h.2
theorem wipe_eq {σ σ' : L2.St} {vs : List Nat} (hl : σ'.length = σ.length) (h : ∀ j, j ∉ vs → σ'[j]? = σ[j]?) : wipe σ' vs = wipe σ vs := by
  refine List.ext_getElem? fun j => ?_
  by_cases hj : j ∈ vs
  · by_cases hb : j < σ.length
    · rw [wipe_at_in _ _ _ hj (by omega), wipe_at_in _ _ _ hj hb]
    · rw [List.getElem?_eq_none (by rw [wipe_len]; omega), List.getElem?_eq_none (by rw [wipe_len]; omega)]
  · rw [wipe_at_out _ _ _ hj, wipe_at_out _ _ _ hj, h j hj]

section
variable {G : Sg} {σ : L2.St} {ρ : Env} {H : Hp} {F : Nat → List Addr} {own : List Nat}
theorem EnvOk.wipe (E : EnvOk G σ ρ H F) (hp : ∀ i ∈ own, G.pin i = none) : EnvOk G (L2.wipe σ own) (wipeD ρ own) H F where
  len := by rw [wipe_len, wipeD_len]; exact E.len
  slot := fun i d e => by
    by_cases hi : i ∈ own
    · rcases wipeD_at_in ρ own i hi with q | q
      · rw [q] at e; cases e
      · rw [q] at e; cases e
    · rw [wipeD_at_out ρ own i hi] at e
      rw [wipe_at_out σ own i hi]
      exact E.slot i d e
  nd := E.nd
  dj := E.dj
  og := E.og
  hv := E.hv
  oh := E.oh
  pn := fun i v h => by
    by_cases hi : i ∈ own
    · rw [hp i hi] at h; cases h
    · rw [wipe_at_out σ own i hi]; exact E.pn i v h
  ff := E.ff
/-- behind a comprehension: its own names as they were -/
theorem EnvOk.restore {G0 : Sg} {ρe : Env} {H' : Hp} {F' : Nat → List Addr} {Fl : List Addr} (E0 : EnvOk G0 σ ρ H F) (hB : G0.B = G.B) (hΓ : G0.Γ = G.Γ) (hO : ∀ a, G.O a → G0.O a ∨ a ∈ Fl) (hpin : G0.pin = G.pin) (E : EnvOk G (L2.wipe σ own) ρe H' F') (ev : Evo H F H' F' Fl) (hf : ∀ i ∈ own, G.Γ i = .fz) :
    EnvOk G σ (resD ρ ρe own) H' F' where
  len := by
    have := E.len
    rw [wipe_len] at this
    rw [resD_len]; exact this
  slot := fun i d e => by
    have hl : ρ.length = ρe.length := by
      have := E.len
      rw [wipe_len] at this
      rw [← E0.len, this]
    by_cases hi : i ∈ own
    · rw [resD_at_in ρ ρe hl own i hi] at e
      obtain ⟨v, h1, h2⟩ := E0.slot i d e
      rw [hΓ, hf i hi] at h2
      obtain ⟨_, r⟩ := Own.fz_inv h2
      refine ⟨v, h1, ?_⟩
      rw [E.ff i (hf i hi), hf i hi]
      rw [hB] at r
      exact .fz (Rp.keep ev.k1 (fun a z => by
        rcases z with z | z
        · exact (ev.new a (.inl z)).imp .inl id
        · rcases hO a z with z | z
          · exact .inl (.inr z)
          · exact (ev.new a (.inr z)).imp .inl id) d r)
    · rw [resD_at_out ρ ρe own i hi] at e
      have := E.slot i d e
      rw [wipe_at_out σ own i hi] at this
      exact this
  nd := E.nd
  dj := E.dj
  og := E.og
  hv := E.hv
  oh := E.oh
  pn := fun i v h => by rw [← hpin] at h; exact E0.pn i v h
  ff := E.ff
/-- a thing outside the slots is changed -/
theorem EnvOk.updO {p : Addr} {o : HO} (E : EnvOk G σ ρ H F) (hp : G.O p) : EnvOk G σ ρ (upd H p o) F := by
  have ne : ∀ {a u}, H a = some u → a ≠ p → upd H p o a = some u := fun e n => by rw [upd_ne n]; exact e
  have nF : ∀ i a, a ∈ F i → a ≠ p := fun i a h q => E.og i a h (q ▸ hp)
  refine ⟨E.len, fun i d e => ?_, E.nd, E.dj, E.og, fun i a h => ?_, fun a h => ?_, E.pn, E.ff⟩
  · obtain ⟨v, h1, h2⟩ := E.slot i d e
    refine ⟨v, h1, Own.keep (fun a q => .inl q) d (fun a u e z => ne e ?_) h2⟩
    rcases z with z | z
    · exact nF i a z
    · intro q; subst q; exact z (.inr hp)
  · obtain ⟨u, e⟩ := E.hv i a h
    exact ⟨u, ne e (nF i a h)⟩
  · by_cases q : a = p
    · subst q; exact ⟨o, upd_same⟩
    · obtain ⟨u, e⟩ := E.oh a h
      exact ⟨u, ne e q⟩
theorem RpAll.updO {B : Bs} {W : Wr} {p : Addr} {o : HO} {vs : List V} {ds : List D} (h : RpAll B H W vs ds) (hp : W p) : RpAll B (upd H p o) W vs ds :=
  RpAll.keep (fun a u e n => by rw [upd_ne (fun q : a = p => n (by rw [q]; exact hp))]; exact e) (fun a q => .inl q) ds h
end
def W0 : WX := fun _ _ _ _ => False
theorem PE.ex {X : Cx} {e : Expr} {α : Type} {t : α → TE} (h : ∀ a, PE X e (t a)) : PE X e fun σ H Q => ∃ a, t a σ H Q := ⟨fun pins s σ H Q I ⟨a, w⟩ => (h a).run pins s σ H Q I w⟩
theorem PTs.ex {X : Cx} {e : List Expr} {α : Type} {t : α → TT} (h : ∀ a, PTs X e (t a)) : PTs X e fun σ H Q => ∃ a, t a σ H Q := ⟨fun pins s σ H Q I ⟨a, w⟩ => (h a).run pins s σ H Q I w⟩
theorem PG.ex {X : Cx} {e : Expr} {α : Type} {t : α → TG} (h : ∀ a, PG X e (t a)) : PG X e fun v σ H Q => ∃ a, t a v σ H Q := ⟨fun pins s σ H v u Q I r ⟨a, w⟩ => (h a).run pins s σ H v u Q I r w⟩
theorem PTs.imp {X : Cx} {e : List Expr} {t t' : TT} (h : PTs X e t) (i : ∀ σ H Q, t' σ H Q → t σ H Q) : PTs X e t' := ⟨fun pins s σ H Q I w => h.run pins s σ H Q I (i σ H Q w)⟩
abbrev DTs (X : Cx) (G : Sg) (W : WX) (es : List Expr) (f : Env → Res Bool) : Prop := PTs X es (tB G W f)
theorem dts_nil {X : Cx} {G : Sg} {W : WX} : DTs X G W [] bYes := PTs.imp pts_nil fun σ H Q ⟨F, ρ, E, g⟩ => Go.done g E rfl
theorem dts_one {X : Cx} {G : Sg} {W : WX} {c : Expr} {f : Env → Res Bool} (h : DT X G W c f) : DTs X G W [c] f := pts_one h
theorem noX_ok {α : Type} {m : Res α} {a : α} {ρ : Env} (h : noX m = .ok a ρ) : m = .ok a ρ := by
  cases m with
  | ok b ρ' => exact h
  | exc _ _ => cases h
  | err => cases h
theorem Go.ok_of {G : Sg} {W : WX} {σ : L2.St} {α β : Type} {m : Res α} {k : α → Env → Res β} {H : Hp} {F : Nat → List Addr} {K : β → Env → Hp → (Nat → List Addr) → List Addr → Prop} (g : Go G W σ (bnd (noX m) k) H F K) : ∃ a ρ, m = .ok a ρ ∧ Go G W σ (k a ρ) H F K := by
  cases m with
  | ok a ρ => exact ⟨a, ρ, rfl, g⟩
  | exc _ _ => exact g.elim
  | err => exact g.elim
theorem bnd_ok_inv {α β : Type} {m : Res α} {k : α → Env → Res β} {b : β} {ρ : Env} (h : bnd m k = .ok b ρ) : ∃ a ρ', m = .ok a ρ' ∧ k a ρ' = .ok b ρ := by
  cases m with
  | ok a ρ' => exact ⟨a, ρ', rfl, h⟩
  | exc _ _ => cases h
  | err => cases h
theorem lcGo_len {T : Tg} {cond : Env → Res Bool} {elt : Env → Res D} {own : List Nat} : ∀ {ds : List D} {ρ ρe : Env} {ys : List D}, lcGo T cond elt own ds ρ = .ok ys ρe → ys.length ≤ ds.length
  | [], _, _, _, h => by cases h; exact Nat.le_refl _
  | d :: ds, ρ, ρe, ys, h => by
    unfold lcGo at h
    split at h
    · cases h
    · obtain ⟨b, ρ2, _, h⟩ := bnd_ok_inv h
      split at h
      · obtain ⟨y, ρ3, _, h⟩ := bnd_ok_inv h
        obtain ⟨zs, ρ4, h1, h⟩ := bnd_ok_inv h
        cases h
        have := lcGo_len h1
        simp; omega
      · have := lcGo_len h
        simp; omega
section
variable {X : Cx} {G : Sg} {W : WX} {elt tg iter : Expr} {ifs : List Expr} {scope : Scope} {own : List (Str × Nat)} {pos spos py : Pos} {fi : Env → Res (List D)} {T : Tg} {cond : Env → Res Bool} {fe : Env → Res D}
theorem tI_bind {σ : L2.St} {H : Hp} {F : Nat → List Addr} {ρ : Env} {α : Type} {f : Env → Res (List D)} {k : List D → Env → Res α} {K : α → Env → Hp → (Nat → List Addr) → List Addr → Prop} {R : It → Hp → Prop} (E : EnvOk G σ ρ H F) (g : Go G W σ (bnd (f ρ) k) H F K)
    (r : ∀ ds ρ1 H1 F1 J, EnvOk G σ ρ1 H1 F1 → Walks G J ds H1 F1 → ds.length ≤ lim → Go G W σ (k ds ρ1) H1 F1 K → Evo H F H1 F1 [] → R J H1) : tI G W f σ H R := by
  refine ⟨F, ρ, E, (Go.bind g).imp fun d ρ1 H1 F1 Fl ⟨v1, _, E1, g1⟩ hz hl J w => ?_⟩
  subst hz
  rw [Sg.add_nil] at E1
  exact r d ρ1 H1 F1 J E1 w hl g1 v1
abbrev gLc (G : Sg) (T : Tg) : TG := fun v σ H Q => ∃ O : Wr, tG (G.wO O) T v σ H Q
abbrev tLcC (G : Sg) (cond : Env → Res Bool) : TT := fun σ H Q => ∃ O : Wr, tB (G.wO O) W0 cond σ H Q
abbrev tLcE (G : Sg) (fe : Env → Res D) : TE := fun σ H Q => ∃ O : Wr, tX (G.wO O) W0 .fz fe σ H Q
theorem lc_read {vs : List Nat} (hs : ∀ i ∈ T.slots, i ∈ vs) (hf : ∀ i ∈ vs, G.Γ i = .fz) (hp : ∀ i ∈ vs, G.pin i = none) {σ : L2.St} {H : Hp} {Q : VK} (h : tX G W (.lst .fz) (eLc fi T cond fe vs) σ H Q) :
    tLc (tI G W fi) (gLc G T) (tLcC G cond) (tLcE G fe) vs σ H Q := by
  obtain ⟨F, ρ, E, g⟩ := h
  refine tI_bind E g fun ds ρ1 H1 F1 J E1 wk hl g1 _ => ?_
  intro A hA
  obtain ⟨ys, ρe, hys, g2⟩ := Go.ok_of g1
  have e2 : EnvOk (G.add [A]) (wipe σ vs) (wipeD ρ1 vs) (upd H1 A (.lst [])) F1 := (E1.wipe hp).new hA (ext_upd hA) ⟨_, upd_same⟩
  refine ⟨fun i m H' => m = ds.length - i ∧ i ≤ ds.length ∧ ∃ F' ρ' acc accD ysr, EnvOk (G.add [A]) (wipe σ vs) ρ' H' F' ∧ H' A = some (.lst acc) ∧ RpAll G.B H' (Wof F' (G.add [A]).O) acc accD ∧ Evo H1 F1 H' F' [A] ∧ lcGo T cond fe vs (ds.drop i) ρ' = .ok ysr ρe ∧ ys = accD ++ ysr ∧ accD.length ≤ i,
    ⟨ds.length, by simp, Nat.zero_le _, F1, _, [], [], ys, e2, upd_same, .nil, Evo.one (ext_upd hA) hA, by simpa using hys, rfl, Nat.le_refl _⟩, ?_⟩
  rintro i m H' ⟨rfl, hi, F', ρ', acc, accD, ysr, E', hA', ra, ev, hgo, hcat, hal⟩
  have hP : ∀ a, a ∈ [A] → H1 a = none := fun a h => by rw [List.mem_singleton.mp h]; exact hA
  have wk' := wk (fun a => a ∈ [A]) H' F' hP ev.drop (there_W E') i
  by_cases hlt : i < ds.length
  · right
    obtain ⟨go, step⟩ := wk'.1 hlt
    refine ⟨go, fun H'' => ds.length - (i + 1) = ds.length - (i + 1) ∧ i + 1 ≤ ds.length ∧ ∃ F' ρ' acc accD ysr, EnvOk (G.add [A]) (wipe σ vs) ρ' H'' F' ∧ H'' A = some (.lst acc) ∧ RpAll G.B H'' (Wof F' (G.add [A]).O) acc accD ∧ Evo H1 F1 H'' F' [A] ∧ lcGo T cond fe vs (ds.drop (i + 1)) ρ' = .ok ysr ρe ∧ ys = accD ++ ysr ∧ accD.length ≤ i + 1,
      fun H'' n => ⟨ds.length - (i + 1), by omega, n⟩, fun x H'' hy => ?_⟩
    obtain ⟨ex, d, hd, rx⟩ := step x H'' hy
    have hdrop : ds.drop i = d :: ds.drop (i + 1) := by
      have hd' := List.getElem?_eq_some_iff.mp hd
      obtain ⟨q, rfl⟩ := hd'
      exact List.drop_eq_getElem_cons q
    rw [hdrop] at hgo
    unfold lcGo at hgo
    split at hgo
    · cases hgo
    · rename_i ρa hb
      obtain ⟨b, ρb, hc, hgo⟩ := bnd_ok_inv hgo
      have E2 := E'.ext ex
      refine ⟨(G.add [A]).O, F', ρ', d, ρa, E2, rx, hb, fun σ2 E3 l3 q3 => ?_⟩
      have hw : wipe σ2 vs = wipe σ vs := by
        have h1 : wipe σ2 vs = wipe (wipe σ vs) vs := wipe_eq l3 fun j hj => q3 j fun z => hj (hs j z)
        rw [h1]
        exact wipe_eq (wipe_len _ _) fun j hj => wipe_at_out _ _ _ hj
      refine ⟨hw, (G.add [A]).O, F', ρa, E3, ?_⟩
      rw [hc]
      intro H3 F3 Fl3 v3 f3 E4 z3
      subst z3
      have E4 : EnvOk (G.add [A]) σ2 ρb H3 F3 := by
        have := E4
        rw [Sg.add_nil] at this
        exact this
      have nA : ∀ {F' : Nat → List Addr} {H' : Hp} {ρ' : Env} {σ' : L2.St}, EnvOk (G.add [A]) σ' ρ' H' F' → ∀ j, A ∉ F' j := fun E j h => E.og j A h (.inr List.mem_cons_self)
      have evA : Evo H1 F1 H3 F3 [A] := by
        have q := (ev.drop.trans (Evo.of_ext ex)).trans v3
        exact ⟨q.keep, fun a z => z.elim (fun z => q.new a (.inl z)) fun z => .inr (hP a z)⟩
      have hA3 : H3 A = some (.lst acc) := v3.keep A _ (ex A _ hA') (nA E2)
      have ra3 : RpAll G.B H3 (Wof F3 (G.add [A]).O) acc accD := RpAll.evo (RpAll.ext ex ra) v3
      cases b with
      | false =>
        rw [if_neg Bool.false_ne_true] at hgo ⊢
        refine ⟨rfl, hlt, F3, wipeD ρb vs, acc, accD, ysr, ?_, hA3, ra3, evA, hgo, hcat, by omega⟩
        rw [← hw]
        exact E4.wipe hp
      | true =>
        rw [if_pos rfl] at hgo ⊢
        obtain ⟨y, ρc, hy', hgo⟩ := bnd_ok_inv hgo
        obtain ⟨zs, ρd, hz, hgo⟩ := bnd_ok_inv hgo
        cases hgo
        refine ⟨(G.add [A]).O, F3, ρb, E4, ?_⟩
        rw [hy']
        intro H4 F4 Fl4 v4 f4 E5 v ov
        obtain ⟨rfl, rv⟩ := Own.fz_inv ov
        have E5 : EnvOk (G.add [A]) σ2 ρc H4 F4 := by
          have := E5
          rw [Sg.add_nil] at this
          exact this
        have rv : Rp G.B H4 (Wof F4 (G.add [A]).O) v y := by
          rw [Sg.add_nil] at rv
          exact rv
        have hA4 : H4 A = some (.lst acc) := v4.keep A _ hA3 (nA E4)
        have ra4 : RpAll G.B H4 (Wof F4 (G.add [A]).O) acc accD := RpAll.evo ra3 v4
        have hlen := ra4.length
        refine ⟨acc, hA4, by rw [hlen]; exact lim_lt (by omega), rfl, hlt, F4, wipeD ρc vs, acc ++ [v], accD ++ [y], zs, ?_, upd_same, ?_, ?_, hz, by rw [hcat]; simp, by simp; omega⟩
        · rw [← hw]
          exact (E5.wipe hp).updO (.inr List.mem_cons_self)
        · exact RpAll.updO (ra4.append (.one rv)) (.inr (.inr List.mem_cons_self))
        · have q := evA.drop.trans v4
          refine ⟨fun a o e n => ?_, fun a z => z.elim (fun z => q.new a (.inl z)) fun z => .inr (hP a z)⟩
          rw [upd_ne (fun z => by rw [z, hA] at e; cases e)]
          exact q.keep a o e n
  · left
    have hi' : i = ds.length := by omega
    refine ⟨wk'.2 (by omega), ?_⟩
    rw [hi', List.drop_length] at hgo
    cases hgo
    rw [List.append_nil] at hcat
    subst hcat
    refine g2 H' F' [A] ev ⟨by simp, fun a h q => ?_⟩ (E1.restore (G := G.add [A]) rfl rfl (fun a h => h) rfl E' ev hf) (.ref A) ?_
    · rw [List.mem_singleton.mp h] at q
      obtain ⟨o, e⟩ := E1.oh A q
      rw [hA] at e; cases e
    · have := lcGo_len hys
      exact Own.lst_of hA' (by omega) ra
theorem dx_lc (hc : X.calm = true) (hN : X.N.Nodup) (hi : DI X G W tg iter fi) (ok : BlkOk X.N X.env.scope scope own) (hs : ∀ i ∈ T.slots, i ∈ own.map (·.2)) (hf : ∀ i ∈ own.map (·.2), G.Γ i = .fz) (hp : ∀ i ∈ own.map (·.2), G.pin i = none)
    (hg : ∀ (O : Wr) (s : Shared) (H : Hp) (C : Addr) (cl : List (Str × Addr)) (fp : List Addr), DG (X.blk s H scope (compEnvC scope cl C X.env) fp) (G.wO O) tg T) (ht : ∀ (O : Wr) (s : Shared) (H : Hp) (C : Addr) (cl : List (Str × Addr)) (fp : List Addr), DTs (X.blk s H scope (compEnvC scope cl C X.env) fp) (G.wO O) W0 ifs cond)
    (he : ∀ (O : Wr) (s : Shared) (H : Hp) (C : Addr) (cl : List (Str × Addr)) (fp : List Addr), DX (X.blk s H scope (compEnvC scope cl C X.env) fp) (G.wO O) W0 .fz elt fe) (hfs : ∀ x, foldedSetIterable iter X.env x = pure x := by intro _; rfl) :
    DX X G W (.lst .fz) (.ListComp elt [⟨tg, iter, ifs, 0⟩] scope pos) (eLc fi T cond fe (own.map (·.2))) :=
  PE.imp (pe_lc hc hN hi ok (fun s H C cl fp => PG.ex fun O => hg O s H C cl fp) (fun s H C cl fp => PTs.ex fun O => ht O s H C cl fp) (fun s H C cl fp => PE.ex fun O => he O s H C cl fp) hfs) fun σ H Q h => lc_read hs hf hp h
end
end PD

set_option Elab.async false
set_option linter.all false
set_option maxRecDepth 100000
set_option maxHeartbeats 4000000
/-! PDi: statements. -/
namespace PD
open PySem PySem.Spec PyProof.Rows L2 RZ

inductive SR where
  | nx (ρ : Env)
  | ret (d : D) (ρ : Env)
  | brk (ρ : Env)
  | ct (ρ : Env)
  | exc (c : Nat) (ρ : Env)
  | err
def bS {α : Type} (m : Res α) (k : α → Env → SR) : SR := match m with
  | .ok a ρ => k a ρ
  | .exc c ρ => .exc c ρ
  | .err => .err
@[simp] theorem bS_ok {α : Type} {a : α} {ρ : Env} {k : α → Env → SR} : bS (.ok a ρ) k = k a ρ := id (rfl : bS (.ok a ρ) k = k a ρ)
@[simp] theorem bS_exc {α : Type} {c : Nat} {ρ : Env} {k : α → Env → SR} : bS (.exc c ρ) k = .exc c ρ := rfl
@[simp] theorem bS_err {α : Type} {k : α → Env → SR} : bS .err k = .err := rfl
def sThen (m : SR) (k : Env → SR) : SR := match m with
  | .nx ρ => k ρ
  | .ret d ρ => .ret d ρ
  | .brk ρ => .brk ρ
  | .ct ρ => .ct ρ
  | .exc c ρ => .exc c ρ
  | .err => .err
@[simp] theorem sThen_nx {ρ : Env} {k : Env → SR} : sThen (.nx ρ) k = k ρ := rfl
@[simp] theorem sThen_ret {d : D} {ρ : Env} {k : Env → SR} : sThen (.ret d ρ) k = .ret d ρ := rfl
@[simp] theorem sThen_exc {d : Nat} {ρ : Env} {k : Env → SR} : sThen (.exc d ρ) k = .exc d ρ := rfl
@[simp] theorem sThen_brk {ρ : Env} {k : Env → SR} : sThen (.brk ρ) k = .brk ρ := rfl
@[simp] theorem sThen_ct {ρ : Env} {k : Env → SR} : sThen (.ct ρ) k = .ct ρ := rfl
@[simp] theorem sThen_err {k : Env → SR} : sThen .err k = .err := rfl

/-! what the pieces are worth -/
def sNil : Env → SR := fun ρ => .nx ρ
def sSeq (f g : Env → SR) : Env → SR := fun ρ => sThen (f ρ) g
def sDrop (f : Env → Res D) : Env → SR := fun ρ => bS (f ρ) fun _ ρ1 => .nx ρ1
def sRet (f : Env → Res D) : Env → SR := fun ρ => bS (f ρ) fun d ρ1 => .ret d ρ1
def sRetN : Env → SR := fun ρ => .ret .none ρ
def sIf (c : Env → Res Bool) (f g : Env → SR) : Env → SR := fun ρ => bS (c ρ) fun b ρ1 => if b = true then f ρ1 else g ρ1
def sSet (i : Nat) (f : Env → Res D) : Env → SR := fun ρ => bS (f ρ) fun d ρ1 => if i < ρ1.length then .nx (ρ1.set i (some d)) else .err
def sAsg (T : Tg) (f : Env → Res D) : Env → SR := fun ρ => bS (f ρ) fun d ρ1 => match bindT T d ρ1 with
  | some ρ2 => .nx ρ2
  | none => .err
def sPar (i j : Nat) (f : Env → Res (List Arg)) : Env → SR := fun ρ => bS (f ρ) fun as ρ1 => match valsOf as with
  | some [d, e] => if i < ρ1.length ∧ j < ρ1.length then .nx ((ρ1.set i (some d)).set j (some e)) else .err
  | _ => .err
def sBrk : Env → SR := fun ρ => .brk ρ
def sCt : Env → SR := fun ρ => .ct ρ
def sErr : Env → SR := fun _ => .err
def eErr {α : Type} : Env → Res α := fun _ => .err
def sExc (c : Nat) : Env → SR := fun ρ => .exc c ρ
def forGo (T : Tg) (body : Env → SR) : List D → Env → SR
  | [], ρ => .nx ρ
  | d :: ds, ρ => match bindT T d ρ with
    | none => .err
    | some ρ1 => match body ρ1 with
      | .nx ρ2 => forGo T body ds ρ2
      | .ct ρ2 => forGo T body ds ρ2
      | .brk ρ2 => .nx ρ2
      | .ret d ρ2 => .ret d ρ2
      | .exc c ρ2 => .exc c ρ2
      | .err => .err
def sFor (T : Tg) (fi : Env → Res (List D)) (body : Env → SR) : Env → SR := fun ρ => bS (fi ρ) fun ds ρ1 => forGo T body ds ρ1
def whGo (c : Env → Res Bool) (body : Env → SR) : Nat → Env → SR
  | 0, _ => .err
  | n + 1, ρ => bS (c ρ) fun b ρ1 => if b = true then match body ρ1 with
      | .nx ρ2 => whGo c body n ρ2
      | .ct ρ2 => whGo c body n ρ2
      | .brk ρ2 => .nx ρ2
      | .ret d ρ2 => .ret d ρ2
      | .exc c ρ2 => .exc c ρ2
      | .err => .err
    else .nx ρ1
def sWhile (c : Env → Res Bool) (body : Env → SR) : Env → SR := whGo c body lim

/-! readings -/
def GoS (G : Sg) (W : WX) (tr : T) (m : SR) (H : Hp) (F : Nat → List Addr) (Dn : Ends) : Prop := match m with
  | .nx ρ' => ∀ σ' H' F', Evo H F H' F' [] → EnvOk G σ' ρ' H' F' → Dn.nx σ' H'
  | .ret d ρ' => ∀ σ' H' F' Fl, Evo H F H' F' Fl → FlOk G Fl → EnvOk (G.add Fl) σ' ρ' H' F' → ∀ v, Own G.B H' (Wof F' (G.add Fl).O) tr v d Fl → Dn.rt v H'
  | .brk ρ' => ∀ σ' H' F', Evo H F H' F' [] → EnvOk G σ' ρ' H' F' → Dn.bk σ' H'
  | .ct ρ' => ∀ σ' H' F', Evo H F H' F' [] → EnvOk G σ' ρ' H' F' → Dn.ct σ' H'
  | .exc c ρ' => ∀ σ' H' F', Evo H F H' F' [] → EnvOk G σ' ρ' H' F' → W (G.cl c) none σ' H'
  | .err => False
theorem GoS.after {G : Sg} {W : WX} {tr : T} {m : SR} {H H1 : Hp} {F F1 : Nat → List Addr} {Dn : Ends} (g : GoS G W tr m H F Dn) (e : Evo H F H1 F1 []) : GoS G W tr m H1 F1 Dn := by
  cases m with
  | nx ρ' => exact fun σ' H' F' v E => g σ' H' F' (e.trans v) E
  | ret d ρ' => exact fun σ' H' F' Fl v f E => g σ' H' F' Fl (e.trans v) f E
  | brk ρ' => exact fun σ' H' F' v E => g σ' H' F' (e.trans v) E
  | ct ρ' => exact fun σ' H' F' v E => g σ' H' F' (e.trans v) E
  | exc c ρ' => exact fun σ' H' F' v E => g σ' H' F' (e.trans v) E
  | err => exact g
/-- a piece ahead of the rest -/
theorem GoS.bind {G : Sg} {W : WX} {tr : T} {α : Type} {σ : L2.St} {m : Res α} {k : α → Env → SR} {H : Hp} {F : Nat → List Addr} {Dn : Ends} (g : GoS G W tr (bS m k) H F Dn) :
    Go G W σ m H F fun a ρ1 H1 F1 Fl => Evo H F H1 F1 Fl ∧ FlOk G Fl ∧ EnvOk (G.add Fl) σ ρ1 H1 F1 ∧ GoS G W tr (k a ρ1) H1 F1 Dn := by
  cases m with
  | ok a ρ' => exact fun H' F' Fl v f E => ⟨v, f, E, GoS.after g v.drop⟩
  | exc c ρ' => exact fun H' F' v E => g σ H' F' v E
  | err => exact g
def tS (G : Sg) (W : WX) (tr : T) (f : Env → SR) : TS := fun Dn σ H => ∃ F ρ, EnvOk G σ ρ H F ∧ GoS G W tr (f ρ) H F Dn
abbrev DS (X : Cx) (G : Sg) (W : WX) (tr : T) (st : Stmt) (f : Env → SR) : Prop := PS X st (tS G W tr f)
abbrev DSs (X : Cx) (G : Sg) (W : WX) (tr : T) (st : List Stmt) (f : Env → SR) : Prop := PSs X st (tS G W tr f)
theorem PS.imp {X : Cx} {e : Stmt} {t t' : TS} (h : PS X e t) (i : ∀ Dn σ H, t' Dn σ H → t Dn σ H) : PS X e t' := ⟨fun pins s σ H Dn I w => h.run pins s σ H Dn I (i Dn σ H w)⟩
theorem PSs.imp {X : Cx} {e : List Stmt} {t t' : TS} (h : PSs X e t) (i : ∀ Dn σ H, t' Dn σ H → t Dn σ H) : PSs X e t' := ⟨fun pins s σ H Dn I w => h.run pins s σ H Dn I (i Dn σ H w)⟩
section
variable {G : Sg} {W : WX} {tr : T} {σ : L2.St} {H : Hp} {F : Nat → List Addr} {ρ : Env} {Dn : Ends}
theorem sX_bind {t : T} {f : Env → Res D} {k : D → Env → SR} {R : VK} (E : EnvOk G σ ρ H F) (g : GoS G W tr (bS (f ρ) k) H F Dn)
    (r : ∀ v d ρ1 H1 F1 Fl, FlOk G Fl → EnvOk (G.add Fl) σ ρ1 H1 F1 → Own G.B H1 (Wof F1 (G.add Fl).O) t v d Fl → GoS G W tr (k d ρ1) H1 F1 Dn → Evo H F H1 F1 Fl → R v H1) : tX G W t f σ H R := by
  exact ⟨F, ρ, E, (GoS.bind g).imp fun d ρ1 H1 F1 Fl ⟨v1, fo, E1, g1⟩ v o => r v d ρ1 H1 F1 Fl fo E1 o g1 v1⟩
theorem sB_bind {f : Env → Res Bool} {k : Bool → Env → SR} {R : Bool → Hp → Prop} (E : EnvOk G σ ρ H F) (g : GoS G W tr (bS (f ρ) k) H F Dn)
    (r : ∀ d ρ1 H1 F1, EnvOk G σ ρ1 H1 F1 → GoS G W tr (k d ρ1) H1 F1 Dn → Evo H F H1 F1 [] → R d H1) : tB G W f σ H R := by
  refine ⟨F, ρ, E, (GoS.bind g).imp fun d ρ1 H1 F1 Fl ⟨v1, _, E1, g1⟩ hz => ?_⟩
  subst hz
  rw [Sg.add_nil] at E1
  exact r d ρ1 H1 F1 E1 g1 v1
theorem sAs_bind {f : Env → Res (List Arg)} {k : List Arg → Env → SR} {R : List V → Hp → Prop} (E : EnvOk G σ ρ H F) (g : GoS G W tr (bS (f ρ) k) H F Dn)
    (r : ∀ vs as ρ1 H1 F1, EnvOk G σ ρ1 H1 F1 → ArgsOk G σ H1 F1 vs as → GoS G W tr (k as ρ1) H1 F1 Dn → Evo H F H1 F1 [] → R vs H1) : tAs G W f σ H R := by
  refine ⟨F, ρ, E, (GoS.bind g).imp fun d ρ1 H1 F1 Fl ⟨v1, _, E1, g1⟩ hz vs o => ?_⟩
  subst hz
  rw [Sg.add_nil] at E1
  exact r vs d ρ1 H1 F1 E1 o g1 v1
theorem sI_bind {f : Env → Res (List D)} {k : List D → Env → SR} {R : It → Hp → Prop} (E : EnvOk G σ ρ H F) (g : GoS G W tr (bS (f ρ) k) H F Dn)
    (r : ∀ ds ρ1 H1 F1 J, EnvOk G σ ρ1 H1 F1 → Walks G J ds H1 F1 → ds.length ≤ lim → GoS G W tr (k ds ρ1) H1 F1 Dn → Evo H F H1 F1 [] → R J H1) : tI G W f σ H R := by
  refine ⟨F, ρ, E, (GoS.bind g).imp fun d ρ1 H1 F1 Fl ⟨v1, _, E1, g1⟩ hz hl J w => ?_⟩
  subst hz
  rw [Sg.add_nil] at E1
  exact r d ρ1 H1 F1 J E1 w hl g1 v1
/-- the ends of a piece that are wished otherwise -/
theorem GoS.ends {m : SR} {D' : Ends} (g : GoS G W tr m H F Dn) (h1 : ∀ σ' H', Dn.nx σ' H' → D'.nx σ' H') (h2 : ∀ v H', Dn.rt v H' → D'.rt v H') (h3 : ∀ σ' H', Dn.bk σ' H' → D'.bk σ' H') (h4 : ∀ σ' H', Dn.ct σ' H' → D'.ct σ' H') : GoS G W tr m H F D' := by
  cases m with
  | nx ρ' => exact fun σ' H' F' v E => h1 _ _ (g σ' H' F' v E)
  | ret d ρ' => exact fun σ' H' F' Fl v f E u o => h2 _ _ (g σ' H' F' Fl v f E u o)
  | brk ρ' => exact fun σ' H' F' v E => h3 _ _ (g σ' H' F' v E)
  | ct ρ' => exact fun σ' H' F' v E => h4 _ _ (g σ' H' F' v E)
  | exc c ρ' => exact g
  | err => exact g
end
section
variable {X : Cx} {G : Sg} {W : WX} {tr : T} {st : Stmt} {rest sa sb body : List Stmt} {e c tg iter : Expr} {f : Env → Res D} {m k : Env → SR} {bc : Env → Res Bool} {i j : Nat} {x : Str} {pos pos' : Pos} {T' : Tg} {fi : Env → Res (List D)} {fs : Env → Res (List Arg)}
theorem dss_nil : DSs X G W tr [] sNil := PSs.imp pss_nil fun Dn σ H ⟨F, ρ, E, g⟩ => g σ H F Evo.refl E
theorem dss_cons (h1 : DS X G W tr st m) (h2 : DSs X G W tr rest k) : DSs X G W tr (st :: rest) (sSeq m k) := PSs.imp (pss_cons h1 h2) fun Dn σ H ⟨F, ρ, E, g⟩ => by
  refine ⟨F, ρ, E, ?_⟩
  unfold sSeq at g
  cases q : m ρ with
  | nx ρ' =>
    rw [q] at g
    exact fun σ' H' F' v E' => ⟨F', ρ', E', GoS.after g v⟩
  | ret d ρ' => rw [q] at g; exact g
  | brk ρ' => rw [q] at g; exact g
  | ct ρ' => rw [q] at g; exact g
  | exc d ρ' => rw [q] at g; exact g
  | err => rw [q] at g; exact g
theorem dss_one (h1 : DS X G W tr st m) : DSs X G W tr [st] m := pss_one h1
theorem ds_pass : DS X G W tr (.Pass pos) sNil := PS.imp ps_pass fun Dn σ H ⟨F, ρ, E, g⟩ => g σ H F Evo.refl E
theorem ds_break : DS X G W tr (.Break pos) sBrk := PS.imp ps_break fun Dn σ H ⟨F, ρ, E, g⟩ => g σ H F Evo.refl E
theorem ds_continue : DS X G W tr (.Continue pos) sCt := PS.imp ps_continue fun Dn σ H ⟨F, ρ, E, g⟩ => g σ H F Evo.refl E
theorem ds_doc {z : Str} {kk p p'} : DS X G W tr (.Expr (.Constant (.str z) kk p) p') sNil := PS.imp ps_doc fun Dn σ H ⟨F, ρ, E, g⟩ => g σ H F Evo.refl E
theorem ds_never : DS X G W tr st sErr := PS.imp ps_never fun Dn σ H ⟨F, ρ, E, g⟩ => g
theorem dss_never {sts : List Stmt} : DSs X G W tr sts sErr := PSs.imp pss_never fun Dn σ H ⟨F, ρ, E, g⟩ => g
theorem pe_never {e : Expr} : PE X e (fun _ _ _ => False) := ⟨fun _ _ _ _ _ _ h => h.elim⟩
theorem dx_never {t : T} : DX X G W t e eErr := PE.imp pe_never fun σ H Q ⟨F, ρ, E, g⟩ => g
theorem ds_expr {t : T} (he : DX X G W t e f) (hs : swapsWith e none pos.line X.env = pure false := by rfl) : DS X G W tr (.Expr e pos) (sDrop f) := PS.imp (ps_expr he hs) fun Dn σ H ⟨F, ρ, E, g⟩ =>
  sX_bind E g fun v d ρ1 H1 F1 Fl fo E1 o g1 v1 => g1 σ H1 F1 Evo.refl E1.drop
theorem ds_ret (he : DX X G W tr e f) : DS X G W tr (.Return (some e) pos) (sRet f) := PS.imp (ps_ret he) fun Dn σ H ⟨F, ρ, E, g⟩ => by
  refine ⟨F, ρ, E, ?_⟩
  unfold sRet at g
  cases q : f ρ with
  | ok d ρ' =>
    rw [q] at g
    exact fun H' F' Fl v fo E' u o => g σ H' F' Fl v fo E' u o
  | exc c ρ' =>
    rw [q] at g
    exact fun H' F' v E' => g σ H' F' v E'
  | err => rw [q] at g; exact g
theorem ds_retN : DS X G W tr (.Return none pos) sRetN := PS.imp ps_retN fun Dn σ H ⟨F, ρ, E, g⟩ => g σ H F [] Evo.refl FlOk.nil (by rw [Sg.add_nil]; exact E) .non (.imm rfl .non)
theorem ds_if (hc : DT X G W c bc) (ha : DSs X G W tr sa m) (hb : DSs X G W tr sb k) : DS X G W tr (.If c sa sb pos) (sIf bc m k) := PS.imp (ps_if hc ha hb) fun Dn σ H ⟨F, ρ, E, g⟩ =>
  sB_bind E g fun d ρ1 H1 F1 E1 g1 v1 => by
    cases d with
    | true => exact ⟨F1, ρ1, E1, g1⟩
    | false => exact ⟨F1, ρ1, E1, g1⟩
theorem sset_end {σ : L2.St} {H1 : Hp} {F1 : Nat → List Addr} {ρ1 : Env} {Fl : List Addr} {d : D} {v : V} {Dn : Ends} {H : Hp} {F : Nat → List Addr} (hp : G.pin i = none) (fo : FlOk G Fl) (E1 : EnvOk (G.add Fl) σ ρ1 H1 F1) (o : Own G.B H1 (Wof F1 (G.add Fl).O) (G.Γ i) v d Fl) (v1 : Evo H F H1 F1 Fl)
    (g1 : GoS G W tr (if i < ρ1.length then .nx (ρ1.set i (some d)) else .err) H F Dn) : Dn.nx (σ.set i (some v)) H1 := by
  by_cases hi : i < ρ1.length
  · rw [if_pos hi] at g1
    refine g1 _ H1 (updF F1 i Fl) ⟨v1.keep, fun a z => ?_⟩ (E1.setOwn o fo.1 fo.2 hp hi)
    rcases z with ⟨j, hj⟩ | z
    · by_cases e : j = i
      · subst e
        rw [updF_same] at hj
        exact v1.new a (.inr hj)
      · rw [updF_ne e] at hj
        exact v1.new a (.inl ⟨j, hj⟩)
    · cases z
  · rw [if_neg hi] at g1; exact g1.elim
theorem GoS.bindE {α : Type} {σ : L2.St} {mm : Res α} {kk : α → Env → SR} {H : Hp} {F : Nat → List Addr} {Dn : Ends} (g : GoS G W tr (bS mm kk) H F Dn) :
    Go G W σ mm H F fun a ρ1 H1 F1 Fl => Evo H F H1 F1 Fl ∧ FlOk G Fl ∧ EnvOk (G.add Fl) σ ρ1 H1 F1 ∧ GoS G W tr (kk a ρ1) H F Dn := by
  cases mm with
  | ok a ρ' => exact fun H' F' Fl v f E => ⟨v, f, E, g⟩
  | exc c ρ' => exact fun H' F' v E => g σ H' F' v E
  | err => exact g
theorem ds_set (hN : X.N.Nodup) (hi : X.N[i]? = some x) (hx : Loc X.env.scope x) (hp : G.pin i = none) (hf : X.fn x = true ∨ X.env.scope.names.lookup x = some .local) (he : DX X G W (G.Γ i) e f) (hs : swapsWith e (some (.Name x pos')) pos.line X.env = pure false := by rfl) :
    DS X G W tr (.Assign [.Name x pos'] e pos) (sSet i f) := PS.imp (ps_set hN hi hx he hs hf) fun Dn σ H ⟨F, ρ, E, g⟩ =>
  ⟨F, ρ, E, (GoS.bindE g).imp fun d ρ1 H1 F1 Fl ⟨v1, fo, E1, g1⟩ v o => sset_end hp fo E1 o v1 g1⟩
/-- name = [..] on one line, the name a local -/
theorem ds_setLc {elt : Expr} {ifs : List Expr} {scope : Scope} {own : List (Str × Nat)} {spos py : Pos} {y : Str} {cond : Env → Res Bool} {fe : Env → Res D} (hc : X.calm = true) (hN : X.N.Nodup) (hy : X.N[i]? = some y) (hyl : X.env.scope.names.lookup y = some .local) (hpi : G.pin i = none) (hΓ : G.Γ i = .lst .fz)
    (hsw : swapsWith (.ListComp elt [⟨tg, iter, ifs, 0⟩] scope pos) (some (.Name y py)) spos.line X.env = pure true) (hi : DI X G W tg iter fi) (ok : BlkOk X.N X.env.scope scope own) (hs : ∀ i ∈ T'.slots, i ∈ own.map (·.2)) (hf : ∀ i ∈ own.map (·.2), G.Γ i = .fz) (hp : ∀ i ∈ own.map (·.2), G.pin i = none)
    (hg : ∀ (O : Wr) (s : Shared) (H : Hp) (C : Addr) (cl : List (Str × Addr)) (fp : List Addr), DG (X.blk s H scope (compEnvC scope cl C X.env) fp) (G.wO O) tg T') (ht : ∀ (O : Wr) (s : Shared) (H : Hp) (C : Addr) (cl : List (Str × Addr)) (fp : List Addr), DTs (X.blk s H scope (compEnvC scope cl C X.env) fp) (G.wO O) W0 ifs cond)
    (he : ∀ (O : Wr) (s : Shared) (H : Hp) (C : Addr) (cl : List (Str × Addr)) (fp : List Addr), DX (X.blk s H scope (compEnvC scope cl C X.env) fp) (G.wO O) W0 .fz elt fe) (hfs : ∀ x, foldedSetIterable iter X.env x = pure x := by intro _; rfl) :
    DS X G W tr (.Assign [.Name y py] (.ListComp elt [⟨tg, iter, ifs, 0⟩] scope pos) spos) (sSet i (eLc fi T' cond fe (own.map (·.2)))) :=
  PS.imp (ps_setLc hc hN hy hyl hsw hi ok (fun s H C cl fp => PG.ex fun O => hg O s H C cl fp) (fun s H C cl fp => PTs.ex fun O => ht O s H C cl fp) (fun s H C cl fp => PE.ex fun O => he O s H C cl fp) hfs) fun Dn σ H ⟨F, ρ, E, g⟩ => by
    refine lc_read hs hf hp ⟨F, ρ, E, (GoS.bindE g).imp fun d ρ1 H1 F1 Fl ⟨v1, fo, E1, g1⟩ v o => ?_⟩
    refine sset_end hpi fo E1 (v := v) ?_ v1 g1
    rw [hΓ]; exact o
/-- .. where what is stored is frozen -/
theorem ds_setLcF {elt : Expr} {ifs : List Expr} {scope : Scope} {own : List (Str × Nat)} {spos py : Pos} {y : Str} {cond : Env → Res Bool} {fe : Env → Res D} (hc : X.calm = true) (hN : X.N.Nodup) (hy : X.N[i]? = some y) (hyl : X.env.scope.names.lookup y = some .local) (hpi : G.pin i = none) (hΓ : G.Γ i = .fz)
    (hsw : swapsWith (.ListComp elt [⟨tg, iter, ifs, 0⟩] scope pos) (some (.Name y py)) spos.line X.env = pure true) (hi : DI X G W tg iter fi) (ok : BlkOk X.N X.env.scope scope own) (hs : ∀ i ∈ T'.slots, i ∈ own.map (·.2)) (hf : ∀ i ∈ own.map (·.2), G.Γ i = .fz) (hp : ∀ i ∈ own.map (·.2), G.pin i = none)
    (hg : ∀ (O : Wr) (s : Shared) (H : Hp) (C : Addr) (cl : List (Str × Addr)) (fp : List Addr), DG (X.blk s H scope (compEnvC scope cl C X.env) fp) (G.wO O) tg T') (ht : ∀ (O : Wr) (s : Shared) (H : Hp) (C : Addr) (cl : List (Str × Addr)) (fp : List Addr), DTs (X.blk s H scope (compEnvC scope cl C X.env) fp) (G.wO O) W0 ifs cond)
    (he : ∀ (O : Wr) (s : Shared) (H : Hp) (C : Addr) (cl : List (Str × Addr)) (fp : List Addr), DX (X.blk s H scope (compEnvC scope cl C X.env) fp) (G.wO O) W0 .fz elt fe) (hfs : ∀ x, foldedSetIterable iter X.env x = pure x := by intro _; rfl) :
    DS X G W tr (.Assign [.Name y py] (.ListComp elt [⟨tg, iter, ifs, 0⟩] scope pos) spos) (sSet i (eLc fi T' cond fe (own.map (·.2)))) :=
  PS.imp (ps_setLc hc hN hy hyl hsw hi ok (fun s H C cl fp => PG.ex fun O => hg O s H C cl fp) (fun s H C cl fp => PTs.ex fun O => ht O s H C cl fp) (fun s H C cl fp => PE.ex fun O => he O s H C cl fp) hfs) fun Dn σ H ⟨F, ρ, E, g⟩ => by
    refine lc_read hs hf hp ⟨F, ρ, E, (GoS.bindE g).imp fun d ρ1 H1 F1 Fl ⟨v1, fo, E1, g1⟩ v o => ?_⟩
    have o' : Own G.B H1 (Wof F1 (G.add []).O) (G.Γ i) v d [] := by
      rw [hΓ, Sg.add_nil]
      refine .fz (Own.rp (fun a z => z.imp id .inl) d (fun a ha z => ?_) o)
      rcases z with ⟨j, hj⟩ | z
      · exact E1.og j a hj (.inr ha)
      · exact fo.2 a ha z
    exact sset_end hpi FlOk.nil (by rw [Sg.add_nil]; exact E1.drop) o' v1.drop g1
/-- (a, b) = a pair, all frozen -/
theorem ds_asg (hg : DG X G tg T') (he : DX X G W .fz e f) (hs : swapsWithSole [tg] e pos.line X.env = pure false) (hw : swappedStores [tg] e X.env = pure none) (h1 : (assignEach [tg] X.env).map (·.2) = [assign tg X.env]) :
    DS X G W tr (.Assign [tg] e pos) (sAsg T' f) := PS.imp (ps_asg he hg hs hw h1) fun Dn σ H ⟨F, ρ, E, g⟩ =>
  sX_bind E g fun v d ρ1 H1 F1 Fl fo E1 o g1 v1 => by
    obtain ⟨rfl, r⟩ := Own.fz_inv o
    rw [Sg.add_nil] at E1 r
    cases q : bindT T' d ρ1 with
    | none => simp only [q] at g1; exact g1.elim
    | some ρ2 =>
      simp only [q] at g1
      exact ⟨F1, ρ1, d, ρ2, E1, r, q, fun σ' E' _ _ => g1 σ' H1 F1 Evo.refl E'⟩
theorem ds_par {x y : Str} {a b : Expr} {px py pt : Pos} {kt k2 pt2} (hc : X.calm = true) (hN : X.N.Nodup) (hi : X.N[i]? = some x) (hj : X.N[j]? = some y) (hij : i ≠ j)
    (hx : X.env.scope.names.lookup x = some .local) (hy : X.env.scope.names.lookup y = some .local) (f1 : G.Γ i = .fz) (f2 : G.Γ j = .fz) (p1 : G.pin i = none) (p2 : G.pin j = none) (ha : DA X G W [a, b] fs)
    (hw : swappedStores [.Tuple [.Name x px, .Name y py] kt pt] (.Tuple [a, b] k2 pt2) X.env = pure (some [x, y]))
    (hs : swapsWithSole [.Tuple [.Name x px, .Name y py] kt pt] (.Tuple [a, b] k2 pt2) pos.line X.env = pure false) :
    DS X G W tr (.Assign [.Tuple [.Name x px, .Name y py] kt pt] (.Tuple [a, b] k2 pt2) pos) (sPar i j fs) := PS.imp (ps_par hc hN hi hj hij hx hy ha hw hs) fun Dn σ H ⟨F, ρ, E, g⟩ =>
  sAs_bind E g fun vs as ρ1 H1 F1 E1 os g1 v1 => by
    cases q : valsOf as with
    | none => simp only [q] at g1; exact g1.elim
    | some ds =>
      simp only [q] at g1
      have r := os.vals q
      match ds, r, g1 with
      | [], _, g1 => exact g1.elim
      | [_], _, g1 => exact g1.elim
      | _ :: _ :: _ :: _, _, g1 => exact g1.elim
      | [d, e'], r, g1 =>
        simp only at g1
        by_cases hl : i < ρ1.length ∧ j < ρ1.length
        · rw [if_pos hl] at g1
          cases r with
          | cons r1 r =>
            cases r with
            | cons r2 r =>
              cases r
              exact ⟨_, _, rfl, g1 _ H1 F1 Evo.refl ((E1.setFz r1 f1 p1 hl.1).setFz r2 f2 p2 (by simpa using hl.2))⟩
        · rw [if_neg hl] at g1; exact g1.elim
theorem for_read {T' : Tg} {fi : Env → Res (List D)} {m : Env → SR} {Dn : Ends} {σ : L2.St} {H : Hp} (h : tS G W tr (sFor T' fi m) Dn σ H) : tFor (tI G W fi) (tG G T') (tS G W tr m) Dn σ H := by
  obtain ⟨F, ρ, E, g⟩ := h
  exact (
  sI_bind E g fun ds ρ1 H1 F1 J E1 wk hl g1 v1 => by
    refine ⟨fun i m' σ' H' => m' = ds.length - i ∧ i ≤ ds.length ∧ ∃ F' ρ', EnvOk G σ' ρ' H' F' ∧ Evo H1 F1 H' F' [] ∧ GoS G W tr (forGo T' m (ds.drop i) ρ') H' F' Dn, ⟨ds.length, by simp, Nat.zero_le _, F1, ρ1, E1, Evo.refl, by simpa using g1⟩, ?_⟩
    rintro i m' σ' H' ⟨rfl, hi, F', ρ', E', ev, g'⟩
    have wk' := wk (fun _ => False) H' F' (fun _ z => z.elim) ev (fun a z => there_W E' a (z.imp id fun z => z.elim id False.elim)) i
    by_cases hlt : i < ds.length
    · right
      obtain ⟨go, step⟩ := wk'.1 hlt
      refine ⟨go, fun σ2 H2 => ds.length - (i + 1) = ds.length - (i + 1) ∧ i + 1 ≤ ds.length ∧ ∃ F2 ρ2, EnvOk G σ2 ρ2 H2 F2 ∧ Evo H1 F1 H2 F2 [] ∧ GoS G W tr (forGo T' m (ds.drop (i + 1)) ρ2) H2 F2 Dn,
        fun σ2 H2 n => ⟨ds.length - (i + 1), by omega, n⟩, fun y H'' hy => ?_⟩
      obtain ⟨ex, d, hd, rx⟩ := step y H'' hy
      have hdrop : ds.drop i = d :: ds.drop (i + 1) := by
        obtain ⟨q, rfl⟩ := List.getElem?_eq_some_iff.mp hd
        exact List.drop_eq_getElem_cons q
      rw [hdrop] at g'
      unfold forGo at g'
      have rx : Rp G.B H'' (Wof F' G.O) y d := rx.anti fun a z => z.imp id .inl
      cases qb : bindT T' d ρ' with
      | none => simp only [qb] at g'; exact g'.elim
      | some ρa =>
        simp only [qb] at g'
        refine ⟨F', ρ', d, ρa, E'.ext ex, rx, qb, fun σ2 E2 _ _ => ⟨F', ρa, E2, ?_⟩⟩
        have ev2 : Evo H1 F1 H'' F' [] := ev.trans (Evo.of_ext ex)
        have g2 := GoS.after g' (Evo.of_ext (F := F') ex)
        cases qm : m ρa with
        | nx ρ2 =>
          simp only [qm] at g2
          exact fun σ3 H3 F3 v3 E3 => ⟨rfl, hlt, F3, ρ2, E3, ev2.trans v3, GoS.after g2 v3⟩
        | ct ρ2 =>
          simp only [qm] at g2
          exact fun σ3 H3 F3 v3 E3 => ⟨rfl, hlt, F3, ρ2, E3, ev2.trans v3, GoS.after g2 v3⟩
        | brk ρ2 => simp only [qm] at g2; exact g2
        | ret d2 ρ2 => simp only [qm] at g2; exact g2
        | exc c2 ρ2 => simp only [qm] at g2; exact g2
        | err => simp only [qm] at g2; exact g2
    · left
      have hi' : i = ds.length := by omega
      refine ⟨wk'.2 (by omega), ?_⟩
      rw [hi', List.drop_length] at g'
      exact g' σ' H' F' Evo.refl E')
theorem ds_for (hpo : PassesOwn (model X.prog X.w) X.A X.env X.xe) (hc : X.calm = true) (hi : DI X G W tg iter fi) (hg : DG X G tg T') (hb : DSs X G W tr body m) (hs : ∀ x, foldedSetIterable iter X.env x = pure x := by intro _; rfl) :
    DS X G W tr (.For tg iter body [] pos) (sFor T' fi m) := PS.imp (ps_for hpo hc hi hg hb hs) fun Dn σ H h => for_read h
theorem ds_while (hpo : PassesOwn (model X.prog X.w) X.A X.env X.xe) (hc : DT X G W c bc) (hb : DSs X G W tr body m) : DS X G W tr (.While c body [] pos) (sWhile bc m) := PS.imp (ps_while hpo hc hb) fun Dn σ H ⟨F, ρ, E, g⟩ => by
  refine ⟨fun n σ' H' => ∃ F' ρ', EnvOk G σ' ρ' H' F' ∧ GoS G W tr (whGo bc m n ρ') H' F' Dn, ⟨lim, F, ρ, E, g⟩, ?_⟩
  rintro n σ' H' ⟨F', ρ', E', g'⟩
  cases n with
  | zero => exact g'.elim
  | succ n =>
    unfold whGo at g'
    refine sB_bind E' g' fun d ρ1 H1 F1 E1 g1 v1 => ?_
    cases d with
    | false => exact g1 σ' H1 F1 Evo.refl E1
    | true =>
      rw [if_pos rfl] at g1 ⊢
      refine ⟨fun σ2 H2 => ∃ F2 ρ2, EnvOk G σ2 ρ2 H2 F2 ∧ GoS G W tr (whGo bc m n ρ2) H2 F2 Dn, fun σ2 H2 q => ⟨n, Nat.lt_succ_self n, q⟩, F1, ρ1, E1, ?_⟩
      cases qm : m ρ1 with
      | nx ρ2 =>
        simp only [qm] at g1
        exact fun σ3 H3 F3 v3 E3 => ⟨F3, ρ2, E3, GoS.after g1 v3⟩
      | ct ρ2 =>
        simp only [qm] at g1
        exact fun σ3 H3 F3 v3 E3 => ⟨F3, ρ2, E3, GoS.after g1 v3⟩
      | brk ρ2 => simp only [qm] at g1; exact g1
      | ret d2 ρ2 => simp only [qm] at g1; exact g1
      | exc c2 ρ2 => simp only [qm] at g1; exact g1
      | err => simp only [qm] at g1; exact g1
theorem ds_raise {cn : Nat} {C : Addr} (hc : X.calm = true) (tk : Takes X W) (hcl : G.cl cn = .ref C) (he : PMk X e (fun _ H Q => Q (.ref C) none H)) : DS X G W tr (.Raise (some e) none pos) (sExc cn) := PS.imp (ps_raise hc tk he) fun Dn σ H ⟨F, ρ, E, g⟩ => by
  have q := g σ H F Evo.refl E
  rw [hcl] at q
  exact q
end
end PD

set_option Elab.async false
set_option linter.all false
set_option maxRecDepth 100000
set_option maxHeartbeats 4000000
/-! PDj: chains, isinstance, methods, changed lists. -/
namespace PD
open PySem PySem.Spec PyProof.Rows L2 RZ

section
variable {X : Cx} {G : Sg} {W : WX} {a b c e : Expr} {es : List Expr} {pos apos cpos : Pos} {t : T} {fa fb fc : Env → Res Arg} {fs : Env → Res (List Arg)} {x : Str} {i j : Nat}
/-! ### a op1 b op2 c -/
theorem chain_end {op op' : CmpOp} {r r' : R2} {gg gg' : D → D → Option D} (pv : PV2 G.B r .fz gg) (pv' : PV2 G.B r' .fz gg') {σ : L2.St} {H : Hp} {Q : VK} (h : tX G W .fz (eChain gg gg' fa fb fc) σ H Q) : tChain r r' (tO G W fa) (tO G W fb) (tO G W fc) σ H Q := by
  obtain ⟨F, ρ, E, g⟩ := h
  exact tO_bind E g fun x a1 ρ1 H1 F1 E1 o1 g1 _ => tO_bind E1 g1 fun y b1 ρ2 H2 F2 E2 o2 g2 v2 => op2_end pv E2 (o1.evo v2) o2 (Go.bind g2) fun d H' F' Fl v ex k o E3 eF => by
    obtain ⟨v3, fo, E4, g3⟩ := k
    obtain ⟨rfl, _⟩ := Own.fz_inv o
    rw [Sg.add_nil] at E4
    cases d with
    | bool q =>
      refine ⟨q, own_bool o, ?_⟩
      cases q with
      | false =>
        rw [if_neg Bool.false_ne_true]
        exact Go.done g3 E4 _ (.fz (.bl _))
      | true =>
        rw [if_pos rfl]
        exact tO_bind E4 g3 fun w c1 ρ4 H4 F4 E5 o5 g5 v5 => op2_end pv' E5 ((o2.evo v3).evo v5) o5 g5 fun d H' F' Fl v _ k o _ _ => k v o
    | _ => exact g3.elim
theorem dx_chain {op op' : CmpOp} {r r' : R2} {gg gg' : D → D → Option D} (ho : OpR X (compareOp op) r) (ho' : OpR X (compareOp op') r') (pv : PV2 G.B r .fz gg) (pv' : PV2 G.B r' .fz gg') (ha : DO X G W a fa) (hb : DO X G W b fb) (hc : DO X G W c fc)
    (hm : lastMarks [op, op'] [b, c] = false) : DX X G W .fz (.Compare a [op, op'] [b, c] pos) (eChain gg gg' fa fb fc) :=
  PE.imp (pe_chain ho ho' ha hb hc hm) fun σ H Q h => chain_end (op := op) (op' := op') pv pv' h
theorem dt_chain {op op' : CmpOp} {r r' : R2} {gg gg' : D → D → Option D} (ho : OpR X (compareOp op) r) (ho' : OpR X (compareOp op') r') (pv : PV2 G.B r .fz gg) (pv' : PV2 G.B r' .fz gg') (ha : DO X G W a fa) (hb : DO X G W b fb) (hc : DO X G W c fc)
    (hm : lastMarks [op, op'] [b, c] = false) : DT X G W (.Compare a [op, op'] [b, c] pos) (bOf (eChain gg gg' fa fb fc)) :=
  PT.imp (pt_chain ho ho' ha hb hc hm) fun σ H Q ⟨F, ρ, E, g⟩ => by
    refine chain_end (op := op) (op' := op') (W := W) pv pv' ⟨F, ρ, E, (Go.bind g).imp fun d ρ1 H1 F1 Fl ⟨v1, fo, E1, g1⟩ v o => ?_⟩
    obtain ⟨rfl, _⟩ := Own.fz_inv o
    rw [Sg.add_nil] at E1
    cases d with
    | bool q => exact ⟨q, own_bool o, Go.done g1 E1 rfl⟩
    | _ => exact g1.elim

/-! ### isinstance of a built-in type -/
inductive TyN where
  | int | bool | str | tuple | list
def TyN.name : TyN → String
  | .int => "int"
  | .bool => "bool"
  | .str => "str"
  | .tuple => "tuple"
  | .list => "list"
def isi : TyN → D → Bool
  | .int, .int _ => true
  | .int, .bool _ => true
  | .bool, .bool _ => true
  | .str, .str _ => true
  | .tuple, .tuple _ => true
  | .list, .list _ => true
  | _, _ => false
def isiD (n : TyN) : D → Option D
  | .dict _ => none
  | d => some (.bool (isi n d))
def tyD : D → String
  | .none => "NoneType"
  | .bool _ => "bool"
  | .int _ => "int"
  | .str _ => "str"
  | .list _ => "list"
  | .tuple _ => "tuple"
  | .dict _ => "dict"
theorem kt_bool : ∀ n : TyN, kitB "bool" n.name = some (match n with | .int => true | .bool => true | _ => false) := by intro n; cases n <;> decide +kernel
theorem kt_int : ∀ n : TyN, kitB "int" n.name = some (match n with | .int => true | _ => false) := by intro n; cases n <;> decide +kernel
theorem kt_str : ∀ n : TyN, kitB "str" n.name = some (match n with | .str => true | _ => false) := by intro n; cases n <;> decide +kernel
theorem kt_list : ∀ n : TyN, kitB "list" n.name = some (match n with | .list => true | _ => false) := by intro n; cases n <;> decide +kernel
theorem kt_tuple : ∀ n : TyN, kitB "tuple" n.name = some (match n with | .tuple => true | _ => false) := by intro n; cases n <;> decide +kernel
theorem kt_none : ∀ n : TyN, kitB "NoneType" n.name = some false := by intro n; cases n <;> decide +kernel
theorem kit_isi (n : TyN) : ∀ d : D, (∀ es, d ≠ .dict es) → kitB (tyD d) n.name = some (isi n d)
  | .none, _ => by have h := kt_none n; cases n <;> exact h
  | .bool _, _ => by have h := kt_bool n; cases n <;> exact h
  | .int _, _ => by have h := kt_int n; cases n <;> exact h
  | .str _, _ => by have h := kt_str n; cases n <;> exact h
  | .list _, _ => by have h := kt_list n; cases n <;> exact h
  | .tuple _, _ => by have h := kt_tuple n; cases n <;> exact h
  | .dict es, h => absurd rfl (h es)
theorem rq_ty {B : Bs} {H : Hp} {W : Wr} {v : V} {d : D} (h : Rq B H W v d) (nd : ∀ es, d ≠ .dict es) : TyX B.2.2 H v (.type (tyD d)) := by
  cases d with
  | none => rw [rq_none h]; exact .base .non
  | bool q => rw [rq_bool h]; exact .base (.bl _)
  | int q => rw [rq_int h]; exact .base (.int _)
  | str q => rw [(rq_str h).1]; exact .base (.str _)
  | list ds =>
    obtain ⟨p, xs, rfl, rd, _⟩ := rq_list h
    rcases rd with (rd | ⟨o, rd⟩) | ⟨its, n, e, _⟩
    · exact .base (.lst rd)
    · exact .base (.frz rd)
    · exact .kList e rfl
  | tuple ds =>
    obtain ⟨p, xs, rfl, rd, _⟩ := rq_tup h
    rcases rd with rd | ⟨o, rd⟩
    · exact .base (.tup rd)
    · exact .fTuple rd
  | dict es => exact absurd rfl (nd es)
theorem dx_isi (n : TyN) {p p2 : Pos} {y : Str} (hB : G.B.2.2 = X.K) (hg : Gl X "isinstance") (hm : X.mg "isinstance" = none) (hg2 : Gl X y) (hm2 : X.mg y = none) (hv2 : bootBuiltins y = some (.type n.name)) (ha : DO X G W a fa) (hv : bootBuiltins "isinstance" = some (.builtin "isinstance"))
    (hn2 : y ≠ "__name__" := by decide) (hd2 : (y == ("__debug__" : Str)) = false := by decide)
    (he : starEach [a, .Name y p2] X.env = (false, eval a X.env) :: starEach [.Name y p2] X.env := by rfl) (he2 : starEach [.Name y p2] X.env = (false, eval (.Name y p2) X.env) :: starEach [] X.env := by rfl) (hpl : (backTo pos (starEach [.Name y p2] X.env)).any (·.1) = false := by rfl) :
    DX X G W .fz (.Call (.Name "isinstance" p) [a, .Name y p2] [] pos) (eOp1 (isiD n) fa) :=
  PE.imp (pe_callB call_isi hg hm hv (pa_cons ha (pa_cons (pe_bltn (v := .ty n.name) hg2 hm2 hv2 rfl hn2 hd2) pa_nil he2) he) (by decide) (by decide) he hpl) fun σ H Q ⟨F, ρ, E, g⟩ =>
    tO_bind E g fun v a1 ρ1 H1 F1 E1 o1 g1 _ => by
      cases e1 : deref ρ1 a1 with
      | none => rw [e1] at g1; exact g1.elim
      | some d =>
        simp only [e1] at g1
        have nd : ∀ es, d ≠ .dict es := fun es z => by subst z; exact g1.elim
        have hq : isiD n d = some (.bool (isi n d)) := by
          cases d <;> first | rfl | exact absurd rfl (nd _)
        rw [hq] at g1
        rw [← hB]
        exact ⟨v, .ty n.name, .type (tyD d), .type n.name, isi n d, rfl, .ty _, rq_ty (o1.rq E1 e1) nd, kit_ty (kit_isi n d nd), Go.done g1 E1 _ (.fz (.bl _))⟩

/-! ### o.m(..), nothing changed -/
def isTyp (T : String) : D → Bool
  | .str _ => T == "str"
  | .list _ => T == "list"
  | _ => false
def gIf (T : String) (g : D → List D → Option D) : D → List D → Option D := fun d ds => if isTyp T d = true then g d ds else none
theorem isTyp_tyV {B : Bs} {H : Hp} {W : Wr} {v : V} {d : D} {T : String} (h : isTyp T d = true) (r : Rq B H W v d) : tyV B.2.2 T v H := by
  cases d with
  | str z =>
    rw [(rq_str r).1]
    exact eq_of_beq h
  | list ds =>
    obtain ⟨a, xs, rfl, rd, _⟩ := rq_list r
    exact .inl ⟨eq_of_beq h, xs, rd.sq⟩
  | _ => cases h
def eMt1 (T : String) (g : D → List D → Option D) (fo : Env → Res Arg) (f : Env → Res (List Arg)) : Env → Res D := fun ρ => bnd (fo ρ) fun a ρ1 => match deref ρ1 a with
  | some x => if isTyp T x = true then bnd (f ρ1) fun as ρ2 => match derefs ρ2 as with
      | some ds => match deref ρ2 a with
        | some x2 => ofO (g x2 ds) ρ2
        | none => .err
      | none => .err
    else .err
  | none => .err
def PVmt (B : Bs) (r : V → List V → Hp → VK → Prop) (t : T) (g : D → List D → Option D) : Prop := ∀ x xs d ds H (W : Wr) (Q : VK) z, Rq B H W x d → RqAll B H W xs ds → g d ds = some z → (∀ a, W a → ∃ o, H a = some o) → VOut B H W t z Q → r x xs H Q
theorem dx_mt {Ty id : String} {name : Str} {r : V → List V → Hp → VK → Prop} {g : D → List D → Option D} (hB : G.B.2.2 = X.K) (pa : PlainAttrs Ty) (slot : Slot Ty name id) (hty : typeOf (.builtin id) = pure (.type "method_descriptor")) (hm : MtR X id r) (pv : PVmt G.B r t g) (ho : DO X G W a fa) (ha : DA X G W (e :: es) fs)
    (hbase : attributeBase a name X.env (eval a X.env) = eval a X.env)
    (hfew : ((backTo cpos (starEach (e :: es) X.env)).all (fun x => !x.1) && (backToKw cpos (keywordEach [] X.env)).all (fun x => x.1.isSome)
      && decide ((e :: es).length + ([] : List Keyword).length + (if ([] : List Keyword).isEmpty then 0 else 1) < 30)) = true)
    (hline : (apos.endLine == cpos.line) = true) (hs : starEach (e :: es) X.env = (false, eval e X.env) :: starEach es X.env) (hplain : (backTo cpos (starEach es X.env)).any (·.1) = false) :
    DX X G W t (.Call (.Attribute a name apos) (e :: es) [] cpos) (eMt1 Ty g fa fs) :=
  PE.imp (pe_bm pa slot hty hm ho ha hbase hfew hline hs hplain) fun σ H Q ⟨F, ρ, E, gg⟩ => tO_bind E gg fun v a1 ρ1 H1 F1 E1 o1 g1 _ => by
    cases e1 : deref ρ1 a1 with
    | none => rw [e1] at g1; exact g1.elim
    | some d =>
      simp only [e1] at g1
      by_cases hT : isTyp Ty d = true
      · rw [if_pos hT] at g1
        refine ⟨hB ▸ isTyp_tyV hT (o1.rq E1 e1), tAs_bind E1 g1 fun vs as ρ2 H2 F2 E2 os g2 v2 => ?_⟩
        cases e2 : derefs ρ2 as with
        | none => rw [e2] at g2; exact g2.elim
        | some ds =>
          simp only [e2] at g2
          cases e3 : deref ρ2 a1 with
          | none => rw [e3] at g2; exact g2.elim
          | some d2 =>
            simp only [e3] at g2
            cases e4 : g d2 ds with
            | none => rw [e4] at g2; exact g2.elim
            | some z =>
              rw [e4] at g2
              exact pv v vs d2 ds H2 (Wof F2 G.O) Q z ((o1.evo v2).rq E2 e3) (os.rq E2 e2) e4 (there_W E2) fun u H' Fl k hn nd o => let ⟨h3, o'⟩ := Go.fin g2 E2 k hn nd o; h3 u o'
      · rw [if_neg hT] at g1; exact g1.elim
theorem dx_mt0 {Ty id : String} {name : Str} {r : V → List V → Hp → VK → Prop} {g : D → List D → Option D} (hB : G.B.2.2 = X.K) (pa : PlainAttrs Ty) (slot : Slot Ty name id) (hty : typeOf (.builtin id) = pure (.type "method_descriptor")) (hm : MtR X id r) (pv : PVmt G.B r t g) (ho : DO X G W a fa)
    (hbase : attributeBase a name X.env (eval a X.env) = eval a X.env) (hline : (apos.endLine == cpos.line) = true) :
    DX X G W t (.Call (.Attribute a name apos) [] [] cpos) (eMt1 Ty g fa aNil) :=
  PE.imp (pe_bm0 pa slot hty hm ho hbase hline) fun σ H Q ⟨F, ρ, E, gg⟩ => tO_bind E gg fun v a1 ρ1 H1 F1 E1 o1 g1 _ => by
    cases e1 : deref ρ1 a1 with
    | none => rw [e1] at g1; exact g1.elim
    | some d =>
      simp only [e1] at g1
      by_cases hT : isTyp Ty d = true
      · rw [if_pos hT] at g1
        refine ⟨hB ▸ isTyp_tyV hT (o1.rq E1 e1), ?_⟩
        simp only [aNil, bnd_ok, derefs, e1] at g1
        cases e4 : g d [] with
        | none => rw [e4] at g1; exact g1.elim
        | some z =>
          rw [e4] at g1
          exact pv v [] d [] H1 (Wof F1 G.O) Q z (o1.rq E1 e1) .nil e4 (there_W E1) fun u H' Fl k hn nd o => let ⟨h3, o'⟩ := Go.fin g1 E1 k hn nd o; h3 u o'
      · rw [if_neg hT] at g1; exact g1.elim

/-! ### a slot's own list changed by a method -/
def PVmu (B : Bs) (r : V → List V → Hp → VK → Prop) (g : List D → List D → Option (D × List D)) : Prop := ∀ l xs ds ys es H (W : Wr) (Q : VK) z ds', H l = some (.lst xs) → ds.length ≤ lim → RpAll B H W xs ds → RpAll B H W ys es → g ds es = some (z, ds') →
  (∀ v xs', Rp B H W v z → RpAll B H W xs' ds' → Q v (upd H l (.lst xs'))) → r (.ref l) ys H Q
def eMut (j : Nat) (g : List D → List D → Option (D × List D)) (fs : Env → Res (List Arg)) : Env → Res D := fun ρ => match slotD ρ j with
  | some (.list _) => bnd (fs ρ) fun as ρ1 => match slotD ρ1 j, valsOf as with
    | some (.list ds), some es => match g ds es with
      | some (z, ds') => if ds'.length ≤ lim then .ok z (ρ1.set j (some (.list ds'))) else .err
      | none => .err
    | _, _ => .err
  | _ => .err
theorem Rp.updW {B : Bs} {H : Hp} {W : Wr} {p : Addr} {o : HO} {v : V} {d : D} (h : Rp B H W v d) (hp : W p) : Rp B (upd H p o) W v d :=
  Rp.keep (fun a u e n => by rw [upd_ne (fun q : a = p => n (by rw [q]; exact hp))]; exact e) (fun a q => .inl q) d h
theorem EnvOk.mutL {σ : L2.St} {H : Hp} {F : Nat → List Addr} {ρ : Env} {l : Addr} {xs' : List V} {ds' : List D} (E : EnvOk G σ ρ H F) (hΓ : G.Γ j = .lst .fz) (hσ : σ[j]? = some (some (.ref l))) (hF : F j = [l]) (hl : ds'.length ≤ lim) (r : RpAll G.B H (Wof F G.O) xs' ds') :
    EnvOk G σ (ρ.set j (some (.list ds'))) (upd H l (.lst xs')) F ∧ Evo H F (upd H l (.lst xs')) F [] := by
  have hW : Wof F G.O l := .inl ⟨j, by rw [hF]; exact List.mem_cons_self⟩
  have nF : ∀ i a, i ≠ j → a ∈ F i → a ≠ l := fun i a ne h q => by
    subst q
    exact ne (E.dj i j a h (by rw [hF]; exact List.mem_cons_self))
  have nO : ∀ a, G.O a → a ≠ l := fun a h q => by
    subst q
    exact E.og j a (by rw [hF]; exact List.mem_cons_self) h
  refine ⟨⟨by simpa using E.len, fun i d e => ?_, E.nd, E.dj, E.og, fun i a h => ?_, fun a h => ?_, E.pn, E.ff⟩, ⟨fun a o e n => ?_, fun a z => .inl (z.elim id fun q => nomatch q)⟩⟩
  · rcases get_set_some e with ⟨rfl, e1, _⟩ | ⟨ne, e⟩
    · cases e1
      refine ⟨_, hσ, ?_⟩
      rw [hΓ, hF]
      exact Own.lst_of upd_same hl (r.updO hW)
    · obtain ⟨v, h1, h2⟩ := E.slot i d e
      refine ⟨v, h1, Own.keep (fun a q => .inl q) d (fun a u e z => ?_) h2⟩
      rw [upd_ne]
      · exact e
      · rcases z with z | z
        · exact nF i a ne z
        · exact fun q => z (by rw [q]; exact hW)
  · obtain ⟨u, e⟩ := E.hv i a h
    by_cases q : a = l
    · subst q; exact ⟨_, upd_same⟩
    · exact ⟨u, by rw [upd_ne q]; exact e⟩
  · obtain ⟨u, e⟩ := E.oh a h
    exact ⟨u, by rw [upd_ne (nO a h)]; exact e⟩
  · rw [upd_ne]
    · exact e
    · exact fun q => n j (by rw [q, hF]; exact List.mem_cons_self)
theorem mut_end {σ : L2.St} {H1 : Hp} {F1 : Nat → List Addr} {ρ1 : Env} {v : V} {vs : List V} {as : List Arg} {Q : VK} {r : V → List V → Hp → VK → Prop} {g : List D → List D → Option (D × List D)} (hΓ : G.Γ j = .lst .fz) (pv : PVmu G.B r g) (hσ : σ[j]? = some (some v)) (E1 : EnvOk G σ ρ1 H1 F1) (os : ArgsOk G σ H1 F1 vs as)
    (g1 : Go G W σ (match slotD ρ1 j, valsOf as with
    | some (.list ds), some es => match g ds es with
      | some (z, ds') => if ds'.length ≤ lim then .ok z (ρ1.set j (some (.list ds'))) else .err
      | none => .err
    | _, _ => .err) H1 F1 fun d _ H' F' Fl => ∀ v, Own G.B H' (Wof F' (G.add Fl).O) .fz v d Fl → Q v H') : r v vs H1 Q := by
  cases q : slotD ρ1 j with
  | none => simp only [q] at g1; exact g1.elim
  | some d =>
    cases d with
    | list ds =>
      cases q2 : valsOf as with
      | none => simp only [q, q2] at g1; exact g1.elim
      | some es =>
        simp only [q, q2] at g1
        cases q3 : g ds es with
        | none => simp only [q3] at g1; exact g1.elim
        | some p =>
          obtain ⟨z, ds'⟩ := p
          simp only [q3] at g1
          by_cases hl : ds'.length ≤ lim
          · rw [if_pos hl] at g1
            obtain ⟨u, h1, h2⟩ := E1.slot j _ (slotD_some q)
            rw [hσ] at h1
            cases h1
            rw [hΓ] at h2
            obtain ⟨l, xs, rfl, hF, hH, hll, ra⟩ := Own.lst_inv h2
            have hW : Wof F1 G.O l := .inl ⟨j, by rw [hF]; exact List.mem_cons_self⟩
            refine pv l xs ds vs es H1 (Wof F1 G.O) Q z ds' hH hll ra (os.vals q2) q3 fun w xs' rw_ rs => ?_
            obtain ⟨E2, ev⟩ := E1.mutL hΓ hσ hF hl rs
            refine g1 _ F1 [] ev FlOk.nil (by rw [Sg.add_nil]; exact E2) w ?_
            rw [Sg.add_nil]
            exact .fz (rw_.updW hW)
          · rw [if_neg hl] at g1; exact g1.elim
    | _ => simp only [q] at g1; exact g1.elim
theorem own_list_ty {K : PySem.W.Frag} {σ : L2.St} {H : Hp} {F : Nat → List Addr} {ρ : Env} {ds : List D} (E : EnvOk G σ ρ H F) (hΓ : G.Γ j = .lst .fz) (q : slotD ρ j = some (.list ds)) : ∃ v, σ[j]? = some (some v) ∧ tyV K "list" v H := by
  obtain ⟨v, h1, h2⟩ := E.slot j _ (slotD_some q)
  rw [hΓ] at h2
  obtain ⟨l, xs, rfl, hF, hH, hll, ra⟩ := Own.lst_inv h2
  exact ⟨_, h1, .inl ⟨rfl, xs, .inl (.inl hH)⟩⟩
theorem dx_mut {id : String} {name : Str} {r : V → List V → Hp → VK → Prop} {g : List D → List D → Option (D × List D)} {p : Pos} (hΓ : G.Γ j = .lst .fz) (hN : X.N[j]? = some x) (hv : Vis X.env.scope x) (pa : PlainAttrs "list") (slot : Slot "list" name id) (hty : typeOf (.builtin id) = pure (.type "method_descriptor")) (hm : MtR X id r) (pv : PVmu G.B r g) (ha : DA X G W (e :: es) fs)
    (hbase : attributeBase (.Name x p) name X.env (eval (.Name x p) X.env) = eval (.Name x p) X.env)
    (hfew : ((backTo cpos (starEach (e :: es) X.env)).all (fun x => !x.1) && (backToKw cpos (keywordEach [] X.env)).all (fun x => x.1.isSome)
      && decide ((e :: es).length + ([] : List Keyword).length + (if ([] : List Keyword).isEmpty then 0 else 1) < 30)) = true)
    (hline : (apos.endLine == cpos.line) = true) (hs : starEach (e :: es) X.env = (false, eval e X.env) :: starEach es X.env) (hplain : (backTo cpos (starEach es X.env)).any (·.1) = false)
    (hd : (x == ("__debug__" : Str)) = false := by decide) (hcd : (x == ("__classdict__" : Str)) = false := by decide) :
    DX X G W .fz (.Call (.Attribute (.Name x p) name apos) (e :: es) [] cpos) (eMut j g fs) :=
  PE.imp (pe_bm pa slot hty hm (pe_var hN hv hd hcd) ha hbase hfew hline hs hplain) fun σ H Q ⟨F, ρ, E, gg⟩ => by
    unfold eMut at gg
    cases q : slotD ρ j with
    | none => simp only [q] at gg; exact gg.elim
    | some d =>
      cases d with
      | list ds =>
        simp only [q] at gg
        obtain ⟨v, h1, ty⟩ := own_list_ty (K := X.K) E hΓ q
        exact ⟨v, h1, ty, tAs_bind E gg fun vs as ρ1 H1 F1 E1 os g1 _ => mut_end hΓ pv h1 E1 os g1⟩
      | _ => simp only [q] at gg; exact gg.elim
theorem dx_mut0 {id : String} {name : Str} {r : V → List V → Hp → VK → Prop} {g : List D → List D → Option (D × List D)} {p : Pos} (hΓ : G.Γ j = .lst .fz) (hN : X.N[j]? = some x) (hv : Vis X.env.scope x) (pa : PlainAttrs "list") (slot : Slot "list" name id) (hty : typeOf (.builtin id) = pure (.type "method_descriptor")) (hm : MtR X id r) (pv : PVmu G.B r g)
    (hbase : attributeBase (.Name x p) name X.env (eval (.Name x p) X.env) = eval (.Name x p) X.env) (hline : (apos.endLine == cpos.line) = true)
    (hd : (x == ("__debug__" : Str)) = false := by decide) (hcd : (x == ("__classdict__" : Str)) = false := by decide) :
    DX X G W .fz (.Call (.Attribute (.Name x p) name apos) [] [] cpos) (eMut j g aNil) :=
  PE.imp (pe_bm0 pa slot hty hm (pe_var hN hv hd hcd) hbase hline) fun σ H Q ⟨F, ρ, E, gg⟩ => by
    unfold eMut at gg
    cases q : slotD ρ j with
    | none => simp only [q] at gg; exact gg.elim
    | some d =>
      cases d with
      | list ds =>
        simp only [q] at gg
        obtain ⟨v, h1, ty⟩ := own_list_ty (K := X.K) E hΓ q
        refine ⟨v, h1, ty, ?_⟩
        refine mut_end (W := W) hΓ pv h1 E (as := []) .nil ?_
        simp only [aNil, bnd_ok] at gg
        rw [q] at gg
        rw [q]
        exact gg
      | _ => simp only [q] at gg; exact gg.elim
end
/-! the changing methods -/
def appD : List D → List D → Option (D × List D)
  | ds, [e] => if ds.length < lim then some (.none, ds ++ [e]) else none
  | _, _ => none
theorem pv_append {B : Bs} : PVmu B rAppend appD := by
  intro l xs ds ys es H W Q z ds' hH hl ra rb hg k
  match es, rb, hg with
  | [], _, hg => simp [appD] at hg
  | [e], rb, hg =>
    cases rb with
    | cons r rn =>
      cases rn
      simp only [appD] at hg
      split at hg
      · rename_i hlt
        cases hg
        exact ⟨l, xs, _, rfl, rfl, hH, by rw [ra.length]; exact lim_lt hlt, k .non _ .non (ra.append (.one r))⟩
      · cases hg
  | _ :: _ :: _, _, hg => simp [appD] at hg
def extD : List D → List D → Option (D × List D)
  | ds, [.list es] => if ds.length + es.length ≤ lim then some (.none, ds ++ es) else none
  | _, _ => none
end PD

set_option Elab.async false
set_option linter.all false
set_option maxRecDepth 100000
set_option maxHeartbeats 4000000
/-! PDk: defs, calls of them, try. -/
namespace PD
open PySem PySem.Spec PyProof.Rows L2 RZ

/-! ### a def's worth, by its body's -/
def pinAt (p : Option Nat) (vs : List V) : Nat → Option V := fun i => match p with
  | none => none
  | some j => if i = j then vs[j]? else none
def outE (p : Option Nat) (n : Nat) (ρ : Env) : Env := match p with
  | none => List.replicate n none
  | some j => (List.replicate n none).set j (slotD ρ j)
def fnM (p : Option Nat) (n k : Nat) (body : Env → SR) : List D → Res D := fun ds => match body (ds.map some ++ List.replicate k none) with
  | .nx ρ => .ok .none (outE p n ρ)
  | .ret d ρ => .ok d (outE p n ρ)
  | .exc c ρ => .exc c (outE p n ρ)
  | .brk _ => .err
  | .ct _ => .err
  | .err => .err
def gF (B : Bs) (Γ : Nat → T) (cl : Nat → Value) (p : Option Nat) (O : Wr) (vs : List V) : Sg := ⟨B, Γ, O, pinAt p vs, cl⟩
def wE (E : XK) : WX := fun c d _ H => E c d H
def spF (B : Bs) (Γ : Nat → T) (cl : Nat → Value) (p : Option Nat) (n : Nat) (tr : T) (m : List D → Res D) : Sp := fun vs H Q E =>
  vs.length = n ∧ ∃ O F ds, EnvOk (gF B Γ cl p O vs) (vs.map some) (ds.map some) H F ∧ (∀ i, p ≠ some i → F i = []) ∧
    Go (gF B Γ cl p O vs) (wE E) (vs.map some) (m ds) H F fun d _ H' F' Fl => (∀ i, p ≠ some i → F' i = []) → ∀ v, Own B H' (Wof F' ((gF B Γ cl p O vs).add Fl).O) tr v d Fl → Q v H'
def keepF (p : Option Nat) (F : Nat → List Addr) : Nat → List Addr := fun i => match p with
  | none => []
  | some j => if i = j then F j else []
theorem keepF_sub {p : Option Nat} {F : Nat → List Addr} {i : Nat} {a : Addr} (h : a ∈ keepF p F i) : p = some i ∧ a ∈ F i := by
  unfold keepF at h
  cases p with
  | none => cases h
  | some j =>
    simp only at h
    split at h
    · rename_i e; subst e; exact ⟨rfl, h⟩
    · cases h
theorem keepF_at {F : Nat → List Addr} {j : Nat} : keepF (some j) F j = F j := by simp [keepF]
theorem keepF_not {p : Option Nat} {F : Nat → List Addr} {i : Nat} (h : p ≠ some i) : keepF p F i = [] := by
  unfold keepF
  cases p with
  | none => rfl
  | some j => exact if_neg fun e => h (by rw [e])
theorem start_get {vs : List V} {k i : Nat} {v : V} (h : (vs.map some)[i]? = some (some v)) : (vs.map some ++ List.replicate k none)[i]? = some (some v) := by
  rw [List.getElem?_append_left]
  · exact h
  · exact (List.getElem?_eq_some_iff.mp h).1
section
variable {G : Sg} {σ σ' : L2.St} {ρ ρ' : Env} {H H' : Hp} {F F' : Nat → List Addr} {vs : List V} {ds : List D} {n k : Nat} {p : Option Nat}
/-- at the entry: the other slots are empty -/
theorem EnvOk.start (E : EnvOk G (vs.map some) (ds.map some) H F) : EnvOk G (vs.map some ++ List.replicate k none) (ds.map some ++ List.replicate k none) H F := by
  refine ⟨?_, fun i d h => ?_, E.nd, E.dj, E.og, E.hv, E.oh, fun i v h => ?_, E.ff⟩
  · have := E.len
    simp only [List.length_append, this]
    simp
  · by_cases hi : i < (ds.map some).length
    · rw [List.getElem?_append_left hi] at h
      obtain ⟨v, h1, h2⟩ := E.slot i d h
      exact ⟨v, start_get h1, h2⟩
    · rw [List.getElem?_append_right (by omega), List.getElem?_replicate] at h
      split at h <;> cases h
  · exact start_get (E.pn i v h)
theorem outE_len {p : Option Nat} {n : Nat} {ρ : Env} : (outE p n ρ).length = n := by
  unfold outE
  cases p <;> simp
theorem outE_some {p : Option Nat} {n : Nat} {ρ : Env} {i : Nat} {d : D} (h : (outE p n ρ)[i]? = some (some d)) : p = some i ∧ slotD ρ i = some d := by
  unfold outE at h
  cases p with
  | none =>
    simp only at h
    rw [List.getElem?_replicate] at h
    split at h <;> cases h
  | some j =>
    simp only at h
    have h' : ((List.replicate n (none : Option D)).set j (slotD ρ j))[i]? = some (some d) := h
    by_cases e : i = j
    · subst e
      by_cases hl : i < n
      · rw [List.getElem?_set_self (by simpa using hl)] at h'
        exact ⟨rfl, Option.some.inj h'⟩
      · rw [List.getElem?_eq_none (by simpa using hl)] at h'
        cases h'
    · rw [List.getElem?_set_ne (Ne.symm e), List.getElem?_replicate] at h'
      split at h' <;> cases h'
/-- at the end: what is pinned stays -/
theorem EnvOk.finish {B : Bs} {Γ : Nat → T} {cl : Nat → Value} {O : Wr} (hn : vs.length = n) (E : EnvOk (gF B Γ cl p O vs) σ' ρ' H' F') : EnvOk (gF B Γ cl p O vs) (vs.map some) (outE p n ρ') H' (keepF p F') where
  len := by rw [outE_len, List.length_map, hn]
  slot := fun i d h => by
    obtain ⟨hp, hd⟩ := outE_some h
    obtain ⟨v, h1, h2⟩ := E.slot i d (slotD_some hd)
    have hi : i < n := by
      have := (List.getElem?_eq_some_iff.mp h).1
      rwa [outE_len] at this
    have hv : (vs.map some)[i]? = some (some v) := by
      have : pinAt p vs i = some vs[i] := by
        unfold pinAt
        rw [hp]
        simp [hn ▸ hi]
      have z := E.pn i vs[i] this
      rw [h1] at z
      have z' : v = vs[i] := Option.some.inj (Option.some.inj z)
      rw [List.getElem?_map, List.getElem?_eq_getElem (by rw [hn]; exact hi), z']
      rfl
    refine ⟨v, hv, ?_⟩
    have e : keepF p F' i = F' i := by rw [hp]; exact keepF_at
    rw [e]
    exact h2.anti fun a z => by
      rcases z with ⟨j, hj⟩ | z
      · exact .inl ⟨j, (keepF_sub hj).2⟩
      · exact .inr z
  nd := fun i => by
    by_cases e : p = some i
    · subst e; rw [keepF_at]; exact E.nd i
    · rw [keepF_not e]; exact List.nodup_nil
  dj := fun i j a h1 h2 => E.dj i j a (keepF_sub h1).2 (keepF_sub h2).2
  og := fun i a h => E.og i a (keepF_sub h).2
  hv := fun i a h => E.hv i a (keepF_sub h).2
  oh := E.oh
  pn := fun i v h => by
    have h' : pinAt p vs i = some v := h
    unfold pinAt at h'
    cases p with
    | none => cases h'
    | some j =>
      simp only at h'
      split at h'
      · rename_i e; subst e
        rw [List.getElem?_map, h']; rfl
      · cases h'
  ff := fun i h => by
    by_cases e : p = some i
    · subst e; rw [keepF_at]; exact E.ff i h
    · exact keepF_not e
theorem Evo.keepF {Fl : List Addr} (e : Evo H F H' F' Fl) : Evo H F H' (PD.keepF p F') Fl := ⟨e.keep, fun a z => e.new a (z.imp (fun ⟨j, hj⟩ => ⟨j, (keepF_sub hj).2⟩) id)⟩
end
theorem fn_body {B : Bs} {Γ : Nat → T} {cl : Nat → Value} {p : Option Nat} {n k : Nat} {tr : T} {body : Env → SR} {vs : List V} {H : Hp} {Q : VK} {E : XK} (h : spF B Γ cl p n tr (fnM p n k body) vs H Q E) :
    vs.length = n ∧ ∃ O, tS (gF B Γ cl p O vs) (wE E) tr body { nx := fun _ H' => Q .non H', rt := Q } (vs.map some ++ List.replicate k none) H := by
  obtain ⟨hn, O, F, ds, E0, hF, g⟩ := h
  refine ⟨hn, O, F, _, E0.start, ?_⟩
  unfold fnM at g
  cases q : body (ds.map some ++ List.replicate k none) with
  | nx ρ =>
    simp only [q] at g
    intro σ' H' F' ev E'
    refine g H' (keepF p F') [] ev.keepF FlOk.nil (by rw [Sg.add_nil]; exact E'.finish hn) (fun i hi => keepF_not hi) .non (.imm rfl .non)
  | ret d ρ =>
    simp only [q] at g
    intro σ' H' F' Fl ev fo E' v o
    have E2 := EnvOk.finish (B := B) (Γ := Γ) (cl := cl) (O := fun a => O a ∨ a ∈ Fl) hn E'
    refine g H' (keepF p F') Fl ev.keepF fo E2 (fun i hi => keepF_not hi) v (o.anti fun a z => ?_)
    exact z.imp (fun ⟨j, hj⟩ => ⟨j, (keepF_sub hj).2⟩) id
  | exc c ρ =>
    simp only [q] at g
    intro σ' H' F' ev E'
    exact g H' (keepF p F') ev.keepF (E'.finish hn)
  | brk ρ => simp only [q] at g; exact g.elim
  | ct ρ => simp only [q] at g; exact g.elim
  | err => simp only [q] at g; exact g.elim
theorem fn_ok {P : Program} {w : World} {K : PySem.W.Frag} {mg : Str → Option Value} {base : Heap} {x qual : Str} {st : Stmt} {f : Addr} {fd : FuncData} {N ps : List Str} {lev : Nat} {Γ : Nat → T} {cl : Nat → Value} {p : Option Nat} {n k : Nat} {tr : T} {body : Env → SR}
    (Fn : Fun K x qual st f fd) (S : FnScope N ps (defScope st)) (hN : N.length = n + k) (hps : ps.length = n)
    (hb : ∀ (cdv : Value) (A : Around) (outer : List PySem.Env) (s : Shared) (H : Hp) (E : XK) (O : Wr) (vs : List V), Room lev (A.deeper (envOfC qual (defScope st) s.heap.objs.size f cdv)) →
      DSs (cxOf (L2.CX P w) P w K mg base N qual (defScope st) f cdv A outer s H E) (gF (P, w, K) Γ cl p O vs) (wE E) tr (defBody st) body) :
    FnOk P w K mg base (L2.CX P w) (lev + 1) f fd ps (spF (P, w, K) Γ cl p n tr (fnM p n k body)) :=
  Fn.okX S (fun vs H Q E h => by rw [h.1, hps]) fun cdv A outer s H vs Q E hr hsp => by
    obtain ⟨hn, O, h⟩ := fn_body hsp
    refine ⟨_, hb cdv A outer s H E O vs hr, ?_⟩
    unfold L2.start
    rw [hN, hn, Nat.add_sub_cancel_left]
    exact h

/-! ### calls -/
def argIn (ρ : Env) : Option (Nat × Nat) → Nat → List Arg → Option (List D)
  | _, _, [] => some []
  | p, i, .val d :: as => if p.map Prod.fst = some i then none else (argIn ρ p (i + 1) as).map fun ds => d :: ds
  | p, i, .lnd j :: as => if p = some (i, j) then (slotD ρ j).bind fun d => (argIn ρ p (i + 1) as).map fun ds => d :: ds else none
  | _, _, .io _ :: _ => none
def putOut (p : Option (Nat × Nat)) (ρ os : Env) : Env := match p with
  | none => ρ
  | some (i, j) => ρ.set j (slotD os i)
def callM (n : Nat) (p : Option (Nat × Nat)) (m : List D → Res D) (as : List Arg) (ρ : Env) : Res D := match argIn ρ p 0 as with
  | some ds => if ds.length = n ∧ (∀ q, p = some q → q.1 < n) then match m ds with
      | .ok d os => .ok d (putOut p ρ os)
      | .exc c os => .exc c (putOut p ρ os)
      | .err => .err
    else .err
  | none => .err
def eCall (n : Nat) (p : Option (Nat × Nat)) (m : List D → Res D) (fs : Env → Res (List Arg)) : Env → Res D := fun ρ => bnd (fs ρ) fun as ρ1 => callM n p m as ρ1
def isFz : T → Bool
  | .fz => true
  | _ => false
def fzAll (Γ : Nat → T) (p : Option Nat) (n : Nat) : Bool := (List.range n).all fun i => p == some i || isFz (Γ i)
theorem fzAll_at {Γ : Nat → T} {p : Option Nat} {n i : Nat} (h : fzAll Γ p n = true) (hi : i < n) (hp : p ≠ some i) : Γ i = .fz := by
  unfold fzAll at h
  have := List.all_eq_true.mp h i (List.mem_range.mpr hi)
  rw [Bool.or_eq_true] at this
  rcases this with q | q
  · exact absurd (eq_of_beq q) hp
  · cases e : Γ i with
    | fz => rfl
    | lst t => rw [e] at q; cases q
    | dct t => rw [e] at q; cases q
section
variable {G : Sg} {W : WX} {σ : L2.St} {ρ : Env} {H : Hp} {F : Nat → List Addr}
/-- what the arguments stand for -/
theorem argIn_at {p : Option (Nat × Nat)} : ∀ {as : List Arg} {vs : List V} {ds : List D} {i : Nat}, ArgsOk G σ H F vs as → argIn ρ p i as = some ds →
    vs.length = ds.length ∧ ∀ (k : Nat) d, ds[k]? = some d → ∃ v, vs[k]? = some v ∧ ((p.map Prod.fst ≠ some (i + k) ∧ Rp G.B H (Wof F G.O) v d) ∨ ∃ j, p = some (i + k, j) ∧ slotD ρ j = some d ∧ σ[j]? = some (some v))
  | [], _, _, _, h, e => by
    cases h
    unfold argIn at e
    cases e
    exact ⟨rfl, fun k d h => by simp at h⟩
  | .val x :: as, _, ds, i, h, e => by
    cases h with
    | cons h1 h2 =>
      unfold argIn at e
      split at e
      · cases e
      · rename_i hp
        obtain ⟨es, e1, rfl⟩ := Option.map_eq_some_iff.mp e
        obtain ⟨hl, hat⟩ := argIn_at h2 e1
        refine ⟨by simp [hl], fun k d hk => ?_⟩
        cases k with
        | zero =>
          cases hk
          exact ⟨_, rfl, .inl ⟨by simpa using hp, h1⟩⟩
        | succ k =>
          obtain ⟨v, q1, q2⟩ := hat k d (by simpa using hk)
          exact ⟨v, by simpa using q1, by simpa [Nat.add_assoc, Nat.add_comm 1 k] using q2⟩
  | .lnd j :: as, _, ds, i, h, e => by
    cases h with
    | cons h1 h2 =>
      unfold argIn at e
      split at e
      · rename_i hp
        obtain ⟨d0, hd, e⟩ := Option.bind_eq_some_iff.mp e
        obtain ⟨es, e1, rfl⟩ := Option.map_eq_some_iff.mp e
        obtain ⟨hl, hat⟩ := argIn_at h2 e1
        refine ⟨by simp [hl], fun k d hk => ?_⟩
        cases k with
        | zero =>
          cases hk
          exact ⟨_, rfl, .inr ⟨j, hp, hd, h1⟩⟩
        | succ k =>
          obtain ⟨v, q1, q2⟩ := hat k d (by simpa using hk)
          exact ⟨v, by simpa using q1, by simpa [Nat.add_assoc, Nat.add_comm 1 k] using q2⟩
      · cases e
  | .io _ :: _, _, _, _, _, e => by unfold argIn at e; cases e
def fIn (p : Option (Nat × Nat)) (F : Nat → List Addr) : Nat → List Addr := fun i => match p with
  | none => []
  | some (i', j) => if i = i' then F j else []
def oIn (p : Option (Nat × Nat)) (F : Nat → List Addr) (O : Wr) : Wr := fun a => O a ∨ ∃ k, a ∈ F k ∧ ∀ q, p = some q → k ≠ q.2
theorem fIn_of {p : Option (Nat × Nat)} {i : Nat} {a : Addr} (h : a ∈ fIn p F i) : ∃ j, p = some (i, j) ∧ a ∈ F j := by
  unfold fIn at h
  cases p with
  | none => cases h
  | some q =>
    obtain ⟨i', j⟩ := q
    simp only at h
    split at h
    · rename_i e; subst e; exact ⟨j, rfl, h⟩
    · cases h
theorem fIn_at {i j : Nat} : fIn (some (i, j)) F i = F j := by simp [fIn]
theorem wof_in {p : Option (Nat × Nat)} {O : Wr} (a : Addr) : Wof (fIn p F) (oIn p F O) a ↔ Wof F O a := by
  constructor
  · rintro (⟨i, hi⟩ | h | ⟨k, hk, _⟩)
    · obtain ⟨j, _, h⟩ := fIn_of hi
      exact .inl ⟨j, h⟩
    · exact .inr h
    · exact .inl ⟨k, hk⟩
  · rintro (⟨j, hj⟩ | h)
    · cases p with
      | none => exact .inr (.inr ⟨j, hj, fun q e => nomatch e⟩)
      | some q =>
        by_cases e : j = q.2
        · refine .inl ⟨q.1, ?_⟩
          obtain ⟨i', j'⟩ := q
          simp only at e
          subst e
          rw [fIn_at]; exact hj
        · exact .inr (.inr ⟨j, hj, fun q' e' => by cases e'; exact e⟩)
    · exact .inr (.inl h)
/-- the callee's environment -/
theorem call_in {p : Option (Nat × Nat)} {Γc : Nat → T} {vs : List V} {as : List Arg} {ds : List D} {n : Nat} (E : EnvOk G σ ρ H F) (os : ArgsOk G σ H F vs as) (ha : argIn ρ p 0 as = some ds) (hn : ds.length = n) (hΓ : fzAll Γc (p.map Prod.fst) n = true) (hp : ∀ q, p = some q → Γc q.1 = G.Γ q.2) :
    vs.length = n ∧ EnvOk (gF G.B Γc G.cl (p.map Prod.fst) (oIn p F G.O) vs) (vs.map some) (ds.map some) H (fIn p F) := by
  obtain ⟨hl, hat⟩ := argIn_at os ha
  refine ⟨by rw [hl, hn], by simp [hl], fun i d h => ?_, fun i => ?_, fun i j a h1 h2 => ?_, fun i a h q => ?_, fun i a h => ?_, fun a h => ?_, fun i v h => ?_, fun i h => ?_⟩
  · have hd : ds[i]? = some d := by
      rw [List.getElem?_map] at h
      cases e : ds[i]? with
      | none => rw [e] at h; cases h
      | some x => rw [e] at h; cases h; rfl
    obtain ⟨v, h1, h2⟩ := hat i d hd
    refine ⟨v, by rw [List.getElem?_map, h1]; rfl, ?_⟩
    have hi : i < n := by rw [← hn]; exact (List.getElem?_eq_some_iff.mp hd).1
    rw [Nat.zero_add] at h2
    rcases h2 with ⟨ne, r⟩ | ⟨j, rfl, hj, hσ⟩
    · show Own G.B H (Wof (fIn p F) (oIn p F G.O)) (Γc i) v d (fIn p F i)
      rw [fzAll_at hΓ hi ne]
      have e0 : fIn p F i = [] := by
        cases e : fIn p F i with
        | nil => rfl
        | cons a t =>
          obtain ⟨j, hj, _⟩ := fIn_of (p := p) (F := F) (i := i) (a := a) (by rw [e]; exact List.mem_cons_self)
          rw [hj] at ne
          exact absurd rfl ne
      rw [e0]
      exact .fz (r.anti fun a z => (wof_in a).mp z)
    · obtain ⟨u, q1, q2⟩ := E.slot j d (slotD_some hj)
      rw [hσ] at q1
      cases q1
      show Own G.B H (Wof (fIn (some (i, j)) F) (oIn (some (i, j)) F G.O)) (Γc i) v d (fIn (some (i, j)) F i)
      rw [fIn_at, hp (i, j) rfl]
      exact q2.anti fun a z => (wof_in a).mp z
  · unfold fIn
    cases p with
    | none => exact List.nodup_nil
    | some q =>
      simp only
      split
      · exact E.nd _
      · exact List.nodup_nil
  · obtain ⟨j1, e1, _⟩ := fIn_of h1
    obtain ⟨j2, e2, _⟩ := fIn_of h2
    rw [e1] at e2
    cases e2
    rfl
  · obtain ⟨j1, e1, h1⟩ := fIn_of h
    rcases q with q | ⟨k, hk, ne⟩
    · exact E.og j1 a h1 q
    · exact ne _ e1 (E.dj k j1 a hk h1)
  · obtain ⟨j1, e1, h1⟩ := fIn_of h
    exact E.hv j1 a h1
  · rcases h with h | ⟨k, hk, _⟩
    · exact E.oh a h
    · exact E.hv k a hk
  · have h' : pinAt (p.map Prod.fst) vs i = some v := h
    unfold pinAt at h'
    cases p with
    | none => cases h'
    | some q =>
      simp only [Option.map_some] at h'
      split at h'
      · rename_i e; subst e
        rw [List.getElem?_map, h']; rfl
      · cases h'
  · have h' : Γc i = .fz := h
    unfold fIn
    cases p with
    | none => rfl
    | some q =>
      obtain ⟨i', j⟩ := q
      simp only
      split
      · rename_i e; subst e
        have := hp (i, j) rfl
        rw [h'] at this
        exact E.ff j this.symm
      · rfl
def fOut (p : Option (Nat × Nat)) (F Fc : Nat → List Addr) : Nat → List Addr := match p with
  | none => F
  | some (i, j) => updF F j (Fc i)
theorem fOut_of {p : Option (Nat × Nat)} {Fc : Nat → List Addr} {k : Nat} {a : Addr} (h : a ∈ fOut p F Fc k) : (∃ i, p = some (i, k) ∧ a ∈ Fc i) ∨ ((∀ q, p = some q → k ≠ q.2) ∧ a ∈ F k) := by
  unfold fOut at h
  cases p with
  | none => exact .inr ⟨fun q e => (nomatch e), h⟩
  | some q =>
    obtain ⟨i, j⟩ := q
    simp only at h
    by_cases e : k = j
    · subst e; rw [updF_same] at h; exact .inl ⟨i, rfl, h⟩
    · rw [updF_ne e] at h; exact .inr ⟨fun q e' => by cases e'; exact e, h⟩
/-- behind the call -/
theorem call_out {p : Option (Nat × Nat)} {Γc : Nat → T} {vs : List V} {as : List Arg} {ds : List D} {n : Nat} {os : Env} {H' : Hp} {Fc : Nat → List Addr} {Fl : List Addr} (E : EnvOk G σ ρ H F) (oa : ArgsOk G σ H F vs as) (ha : argIn ρ p 0 as = some ds) (hn : ds.length = n) (hp : ∀ q, p = some q → Γc q.1 = G.Γ q.2 ∧ q.1 < n)
    (ev : Evo H (fIn p F) H' Fc Fl) (fo : FlOk (gF G.B Γc G.cl (p.map Prod.fst) (oIn p F G.O) vs) Fl) (Ec : EnvOk ((gF G.B Γc G.cl (p.map Prod.fst) (oIn p F G.O) vs).add Fl) (vs.map some) os H' Fc) :
    Evo H F H' (fOut p F Fc) Fl ∧ FlOk G Fl ∧ EnvOk (G.add Fl) σ (putOut p ρ os) H' (fOut p F Fc) ∧ ∀ a, Wof (fOut p F Fc) (G.add Fl).O a → Wof Fc ((gF G.B Γc G.cl (p.map Prod.fst) (oIn p F G.O) vs).add Fl).O a := by
  have hog : ∀ i a, a ∈ Fc i → ¬ (oIn p F G.O a ∨ a ∈ Fl) := fun i a h => Ec.og i a h
  have hoh : ∀ a, (oIn p F G.O a ∨ a ∈ Fl) → ∃ o, H' a = some o := fun a h => Ec.oh a h
  have hfo : ∀ a ∈ Fl, ¬ oIn p F G.O a := fo.2
  have new : ∀ a, (∃ i, a ∈ fIn p F i) → ∃ j, a ∈ F j := fun a ⟨i, hi⟩ => let ⟨j, _, h⟩ := fIn_of hi; ⟨j, h⟩
  have ev' : Evo H F H' (fOut p F Fc) Fl := ⟨fun a o e nn => ev.keep a o e fun i hi => let ⟨j, _, h⟩ := fIn_of hi; nn j h, fun a z => by
    rcases z with ⟨k, hk⟩ | z
    · rcases fOut_of hk with ⟨i, _, h⟩ | ⟨_, h⟩
      · exact (ev.new a (.inl ⟨i, h⟩)).imp (new a) id
      · exact .inl ⟨k, h⟩
    · exact (ev.new a (.inr z)).imp (new a) id⟩
  have hw : ∀ a, Wof (fOut p F Fc) (G.add Fl).O a → Wof Fc ((gF G.B Γc G.cl (p.map Prod.fst) (oIn p F G.O) vs).add Fl).O a := fun a z => by
    rcases z with ⟨k, hk⟩ | z | z
    · rcases fOut_of hk with ⟨i, _, h⟩ | ⟨ne, h⟩
      · exact .inl ⟨i, h⟩
      · exact .inr (.inl (.inr ⟨k, h, ne⟩))
    · exact .inr (.inl (.inl z))
    · exact .inr (.inr z)
  have hvs : ∀ i j, p = some (i, j) → ∃ v, vs[i]? = some v ∧ σ[j]? = some (some v) := fun i j e => by
    obtain ⟨hl, hat⟩ := argIn_at oa ha
    have hi : i < ds.length := by rw [hn]; exact (hp _ e).2
    obtain ⟨v, h1, h2⟩ := hat i ds[i] (List.getElem?_eq_getElem hi)
    rw [Nat.zero_add] at h2
    rcases h2 with ⟨ne, _⟩ | ⟨j', e', _, hσ⟩
    · rw [e] at ne; exact absurd rfl ne
    · rw [e] at e'; cases e'; exact ⟨v, h1, hσ⟩
  refine ⟨ev', ⟨fo.1, fun a h q => hfo a h (.inl q)⟩, ⟨?_, fun k d h => ?_, fun k => ?_, fun k l a h1 h2 => ?_, fun k a h q => ?_, fun k a h => ?_, fun a h => ?_, E.pn, fun k h => ?_⟩, hw⟩
  · unfold putOut
    cases p with
    | none => exact E.len
    | some q => simpa using E.len
  · have other : (∀ q, p = some q → k ≠ q.2) → ρ[k]? = some (some d) → ∃ v, σ[k]? = some (some v) ∧ Own G.B H' (Wof (fOut p F Fc) (G.add Fl).O) (G.Γ k) v d (F k) := fun ne h => by
      obtain ⟨v, h1, h2⟩ := E.slot k d h
      refine ⟨v, h1, Own.keep (fun a z => ?_) d (fun a o e z => ?_) h2⟩
      · rcases z with ⟨l, hl⟩ | z | z
        · exact (ev'.new a (.inl ⟨l, hl⟩)).imp .inl id
        · exact .inl (.inr z)
        · exact (ev'.new a (.inr z)).imp .inl id
      · refine ev.keep a o e fun i hi => ?_
        obtain ⟨j, hj, h⟩ := fIn_of hi
        rcases z with z | z
        · exact ne _ hj (E.dj k j a z h)
        · exact z (.inl ⟨j, h⟩)
    unfold putOut at h
    cases p with
    | none => exact other (fun q e => nomatch e) h
    | some q =>
      obtain ⟨i, j⟩ := q
      simp only at h
      by_cases e : k = j
      · subst e
        have hd : slotD os i = some d := by
          by_cases hl : k < ρ.length
          · rw [List.getElem?_set_self hl] at h
            exact Option.some.inj h
          · rw [List.getElem?_eq_none (by simpa using hl)] at h
            cases h
        obtain ⟨v, hv, hσ⟩ := hvs i k rfl
        obtain ⟨u, h1, h2⟩ := Ec.slot i d (slotD_some hd)
        rw [List.getElem?_map, hv] at h1
        cases h1
        refine ⟨v, hσ, ?_⟩
        have hΓ : Γc i = G.Γ k := (hp (i, k) rfl).1
        have h2' : Own G.B H' (Wof Fc ((gF G.B Γc G.cl (some i) (oIn (some (i, k)) F G.O) vs).add Fl).O) (Γc i) v d (Fc i) := h2
        rw [hΓ] at h2'
        show Own G.B H' (Wof (fOut (some (i, k)) F Fc) (G.add Fl).O) (G.Γ k) v d (updF F k (Fc i) k)
        rw [updF_same]
        exact h2'.anti hw
      · rw [List.getElem?_set_ne (Ne.symm e)] at h
        have := other (fun q e' => by cases e'; exact e) h
        show ∃ v, σ[k]? = some (some v) ∧ Own G.B H' (Wof (fOut (some (i, j)) F Fc) (G.add Fl).O) (G.Γ k) v d (updF F j (Fc i) k)
        rw [updF_ne e]
        exact this
  · cases e : p with
    | none => exact E.nd k
    | some q =>
      obtain ⟨i, j⟩ := q
      show (updF F j (Fc i) k).Nodup
      by_cases e : k = j
      · subst e; rw [updF_same]; exact Ec.nd i
      · rw [updF_ne e]; exact E.nd k
  · rcases fOut_of h1 with ⟨i, e1, q1⟩ | ⟨n1, q1⟩
    · rcases fOut_of h2 with ⟨i2, e2, q2⟩ | ⟨n2, q2⟩
      · rw [e1] at e2; cases e2; rfl
      · exact absurd (Or.inl (Or.inr ⟨l, q2, n2⟩)) (hog i a q1)
    · rcases fOut_of h2 with ⟨i2, e2, q2⟩ | ⟨n2, q2⟩
      · exact absurd (Or.inl (Or.inr ⟨k, q1, n1⟩)) (hog i2 a q2)
      · exact E.dj k l a q1 q2
  · rcases fOut_of h with ⟨i, e1, q1⟩ | ⟨n1, q1⟩
    · rcases q with q | q
      · exact hog i a q1 (.inl (.inl q))
      · exact hog i a q1 (.inr q)
    · rcases q with q | q
      · exact E.og k a q1 q
      · exact hfo a q (.inr ⟨k, q1, n1⟩)
  · rcases fOut_of h with ⟨i, e1, q1⟩ | ⟨n1, q1⟩
    · exact Ec.hv i a q1
    · exact hoh a (.inl (.inr ⟨k, q1, n1⟩))
  · rcases h with h | h
    · exact hoh a (.inl (.inl h))
    · exact hoh a (.inr h)
  · have h' : G.Γ k = .fz := h
    cases e : p with
    | none => exact E.ff k h'
    | some q =>
      obtain ⟨i, j⟩ := q
      show updF F j (Fc i) k = []
      by_cases e2 : k = j
      · subst e2
        rw [updF_same]
        exact Ec.ff i ((hp (i, k) e).1.trans h')
      · rw [updF_ne e2]; exact E.ff k h'
end
section
variable {X : Cx} {G : Sg} {W : WX} {e : Expr} {es : List Expr} {fs : Env → Res (List Arg)} {x : Str} {pos pp : Pos} {f : Addr} {fd : FuncData} {ps : List Str} {lev : Nat} {Γc : Nat → T} {p : Option (Nat × Nat)} {n : Nat} {tr : T} {m : List D → Res D}
theorem call_end {σ : L2.St} {H : Hp} {F : Nat → List Addr} {ρ : Env} {vs : List V} {as : List Arg} {Q : VK} (hΓ : fzAll Γc (p.map Prod.fst) n = true) (hp : ∀ q, p = some q → Γc q.1 = G.Γ q.2) (E : EnvOk G σ ρ H F) (os : ArgsOk G σ H F vs as)
    (g : Go G W σ (callM n p m as ρ) H F fun d _ H' F' Fl => ∀ v, Own G.B H' (Wof F' (G.add Fl).O) tr v d Fl → Q v H') : spF G.B Γc G.cl (p.map Prod.fst) n tr m vs H Q (WE W σ) := by
  unfold callM at g
  cases ha : argIn ρ p 0 as with
  | none => simp only [ha] at g; exact g.elim
  | some ds =>
    simp only [ha] at g
    by_cases hc : ds.length = n ∧ ∀ q, p = some q → q.1 < n
    · rw [if_pos hc] at g
      obtain ⟨hn, hlt⟩ := hc
      obtain ⟨hvl, Ec⟩ := call_in E os ha hn hΓ hp
      refine ⟨hvl, oIn p F G.O, fIn p F, ds, Ec, fun i hi => ?_, ?_⟩
      · cases e : fIn p F i with
        | nil => rfl
        | cons a t =>
          obtain ⟨j, hj, _⟩ := fIn_of (p := p) (F := F) (i := i) (a := a) (by rw [e]; exact List.mem_cons_self)
          rw [hj] at hi
          exact absurd rfl hi
      · cases q : m ds with
        | err => simp only [q] at g; exact g.elim
        | exc c os' =>
          simp only [q] at g
          intro H' F' ev E'
          obtain ⟨ev', _, E2, _⟩ := call_out (Fl := []) E os ha hn (fun q e => ⟨hp q e, hlt q e⟩) ev FlOk.nil (by rw [Sg.add_nil]; exact E')
          rw [Sg.add_nil] at E2
          exact g H' _ ev' E2
        | ok d os' =>
          simp only [q] at g
          intro H' F' Fl ev fo E' _ v o
          obtain ⟨ev', fo', E2, hw⟩ := call_out E os ha hn (fun q e => ⟨hp q e, hlt q e⟩) ev fo E'
          exact g H' _ Fl ev' fo' E2 v (o.anti hw)
    · rw [if_neg hc] at g; exact g.elim
theorem dx_call (tk : Takes X W) (Fk : FnOk X.prog X.w X.K X.mg X.base (L2.CX X.prog X.w) lev f fd ps (spF G.B Γc G.cl (p.map Prod.fst) n tr m)) (hr : Room lev X.A) (hg : Gl X x) (hm : X.mg x = some (.ref f)) (hk : PySem.W.keepIn X.K (.ref f) = true) (hb : Binds X.K fd ps [])
    (hΓ : fzAll Γc (p.map Prod.fst) n = true) (hp : ∀ q, p = some q → Γc q.1 = G.Γ q.2) (ha : DA X G W (e :: es) fs) (hdb : (x == ("__debug__" : Str)) = false := by decide) (he : starEach (e :: es) X.env = (false, eval e X.env) :: starEach es X.env := by rfl) (hpl : (backTo pos (starEach es X.env)).any (·.1) = false := by rfl) :
    DX X G W tr (.Call (.Name x pp) (e :: es) [] pos) (eCall n p m fs) :=
  PE.imp (pe_callS (E := WE W) Fk hr hg hm hk hb (fun σ => passAt tk σ) ha hdb he hpl) fun σ H Q ⟨F, ρ, E, g⟩ => tAs_bind E g fun vs as ρ1 H1 F1 E1 os g1 _ => call_end hΓ hp E1 os g1
end
end PD

set_option Elab.async false
set_option linter.all false
set_option maxRecDepth 100000
set_option maxHeartbeats 4000000
/-! PDl: try, what the law asks of a caught error. -/
namespace PD
open PySem PySem.Spec PyProof.Rows L2 RZ

/-! ### try .. except C as n -/
def sClr (i : Nat) (m : SR) : SR := match m with
  | .nx ρ => .nx (ρ.set i none)
  | .brk ρ => .brk (ρ.set i none)
  | .ct ρ => .ct (ρ.set i none)
  | .ret d ρ => .ret d ρ
  | .exc _ _ => .err
  | .err => .err
def sTry (i : Nat) (ok : Nat → Bool) (m : Env → SR) (h : Nat → Env → SR) : Env → SR := fun ρ => match m ρ with
  | .exc c ρ1 => if ok c = true then (if i < ρ1.length then sClr i (h c (ρ1.set i none)) else .err) else .exc c ρ1
  | r => r
theorem EnvOk.blind {G : Sg} {σ : L2.St} {ρ : Env} {H : Hp} {F : Nat → List Addr} {i : Nat} {v : Option V} (E : EnvOk G σ ρ H F) (hp : G.pin i = none) : EnvOk G (σ.set i v) (ρ.set i none) H F where
  len := by simpa using E.len
  slot := fun j d e => by
    rcases get_set_some e with ⟨_, e1, _⟩ | ⟨ne, e⟩
    · cases e1
    · obtain ⟨u, h1, h2⟩ := E.slot j d e
      exact ⟨u, by rw [List.getElem?_set_ne (Ne.symm ne)]; exact h1, h2⟩
  nd := E.nd
  dj := E.dj
  og := E.og
  hv := E.hv
  oh := E.oh
  pn := fun j u h => by
    by_cases e : j = i
    · subst e; rw [hp] at h; cases h
    · rw [List.getElem?_set_ne (Ne.symm e)]; exact E.pn j u h
  ff := E.ff
theorem EnvOk.blindL {G : Sg} {σ : L2.St} {ρ : Env} {H : Hp} {F : Nat → List Addr} {i : Nat} (E : EnvOk G σ ρ H F) (hp : G.pin i = none) : EnvOk G (σ.set i none) (ρ.set i none) H F := E.blind hp
/-- the suite: the caught error stands in slot i -/
def tSu (G : Sg) (W : WX) (tr : T) (i : Nat) (h : Nat → Env → SR) (a : Addr) (cls : Value) (d : Option Addr) : TS := fun Dn σ H => ∃ cn F ρ, cls = G.cl cn ∧ d = none ∧ EnvOk G σ ρ H F ∧ σ[i]? = some (some (.ref a)) ∧ H a = none ∧ GoS G W tr (h cn ρ) H F Dn
section
variable {X : Cx} {G : Sg} {W : WX} {tr : T} {body suite : List Stmt} {b₀ : Stmt} {x n : Str} {C : Value} {i : Nat} {np pos pos' : Pos} {m : Env → SR} {ok : Nat → Bool} {h : Nat → Env → SR}
theorem ds_try (hs : X.stack = X.env :: X.outer) (hf : X.env.frame = some X.env.locals) (hN : X.N.Nodup) (hi : X.N[i]? = some n) (hln : X.env.kindOf n = some .local) (hc : Names X x C) (tk : Takes X W) (hpi : G.pin i = none)
    (hx : ∀ c, PySem.W.exmOne X.K (G.cl c) C = some (ok c))
    (hb : ∀ (W : WX) (pn : List (Addr × Obj)) (xe : Value → Shared → Prop), Takes (X.tr pn xe) W → PassesOwn (model X.prog X.w) X.A X.env xe → DSs (X.tr pn xe) G W tr body m)
    (hsu : ∀ (a : Addr) (oe : Obj) (cls : Value) (d : Option Addr) (pn : List (Addr × Obj)), Zc cls d oe → (∃ vs, oe.data = .fields vs) → PSs (X.suite a ((a, oe) :: pn)) (b₀ :: suite) (tSu G W0 tr i h a cls d)) :
    DS X G W tr (.Try body [.ExceptHandler (some (.Name x np)) (some n) (b₀ :: suite) pos'] [] [] pos) (sTry i ok m h) :=
  PS.imp (ps_try_as hs hf hN hi hln hc tk hb hsu) fun Dn σ H ⟨F, ρ, E, g⟩ => by
    refine ⟨F, ρ, E, ?_⟩
    unfold sTry at g
    cases q : m ρ with
    | nx ρ' => rw [q] at g; exact g
    | ret d ρ' => rw [q] at g; exact g
    | brk ρ' => rw [q] at g; exact g
    | ct ρ' => rw [q] at g; exact g
    | err => rw [q] at g; exact g
    | exc c ρ1 =>
      simp only [q] at g
      intro σ' H' F' ev E'
      refine ⟨ok c, hx c, fun hok a ha => ?_, fun hok => ?_⟩
      · rw [if_pos hok] at g
        have hil : i < ρ1.length := Classical.byContradiction fun z => by
          rw [if_neg z] at g
          exact g
        rw [if_pos hil] at g
        have E2 := E'.blind (i := i) (v := some (.ref a)) hpi
        refine ⟨c, F', _, rfl, rfl, E2, List.getElem?_set_self (by rw [E'.len]; exact hil), ha, ?_⟩
        have g2 := GoS.after (Dn := Dn) g ev
        cases qh : h c (ρ1.set i none) with
        | nx ρ2 => rw [qh] at g2; exact fun σ3 H3 F3 v3 E3 => g2 _ H3 F3 v3 (E3.blindL hpi)
        | brk ρ2 => rw [qh] at g2; exact fun σ3 H3 F3 v3 E3 => g2 _ H3 F3 v3 (E3.blindL hpi)
        | ct ρ2 => rw [qh] at g2; exact fun σ3 H3 F3 v3 E3 => g2 _ H3 F3 v3 (E3.blindL hpi)
        | ret d ρ2 => rw [qh] at g2; exact g2
        | exc c2 ρ2 => rw [qh] at g2; exact g2.elim
        | err => rw [qh] at g2; exact g2.elim
      · rw [if_neg (by rw [hok]; exact Bool.false_ne_true)] at g
        exact g σ' H' F' ev E'
end

/-! ### a def that is handed the error that the suite holds -/
structure FnW (P : Program) (w : World) (K : PySem.W.Frag) (mg : Str → Option Value) (base : Heap) (k : Nat) (f : Addr) (fd : FuncData) (ps : List Str) (sp : Addr × Obj → Sp) : Prop where
  len : ∀ q vs H Q E, sp q vs H Q E → vs.length = ps.length
  run : ∀ (A : Around) (outer : List PySem.Env) (s : Shared) (H : Hp) (args : Args) (us : List Value) (vs : List V) (Q : VK) (E : XK) (q : Addr × Obj), L2H.RoomH k A → L2H.PinOk outer H s q → Env0 P w K mg base A outer s H → BindsTo s fd args (ps.zip us) → Vals vs us → sp q vs H Q E →
    codeAny (model P w) A (.call (.ref f) args) (CR (L2.CX P w) outer P w H s Q E) s
theorem fn_ofW {P : Program} {w : World} {K : PySem.W.Frag} {mg : Str → Option Value} {base : Heap} {k : Nat} {x qual : Str} {st : Stmt} {f : Addr} {fd : FuncData} {N ps : List Str} {sp : Addr × Obj → Sp} (Fn : Fun K x qual st f fd) (S : FnScope N ps (defScope st))
    (len : ∀ q vs H Q E, sp q vs H Q E → vs.length = ps.length)
    (hbody : ∀ (cdv : Value) (A : Around) (outer : List PySem.Env) (s : Shared) (H : Hp) (vs : List V) (Q : VK) (E : XK) (q : Addr × Obj), L2H.RoomH k (A.deeper (envOfC qual (defScope st) s.heap.objs.size f cdv)) → sp q vs H Q E →
      ∃ t, PSs (L2H.cxH (L2.CX P w) P w K mg base N qual (defScope st) f cdv A outer s H E q) (defBody st) t ∧ t { nx := fun _ H' => Q .non H', rt := Q } (L2.start N vs) H) :
    FnW P w K mg base (k + 1) f fd ps sp := by
  obtain ⟨oc, od, kV, doc, pm, an, cdv, ct, osl, rfl, lk, hcd⟩ := Fn.ex
  refine ⟨len, ?_⟩
  intro A outer s H args us vs Q E q room hpin en bind vals hsp
  have hl := len _ _ _ _ _ hsp
  have hK : K.In s.heap := en.mod.kin.keeps (fun b o e => And.left (en.bs b o e))
  have hLim : s.heap.NoLimit := en.mod.nolimit.keeps (fun b o e => And.left (en.bs b o e))
  have kinds : ∀ y ∈ ps.zip us, (defScope st).names.lookup y.1 = some .local ∨ ((defScope st).names.lookup y.1 = some .cell ∧ ((cellsFrom (s.heap.objs.size + 1) (defScope st).names []).lookup y.1).isSome = true) := by
    rintro ⟨z, v⟩ hz
    exact (S.par z (List.of_mem_zip hz).1).imp id fun c => ⟨c, PySem.W.cellsFrom_some _ _ _ (.inl c)⟩
  refine codeAny_call_function room.depth (hK _ _ lk) rfl S.co S.gen rfl (PySem.W.codeRec_of hK hcd) (bind _ _ _ _ ?_)
  refine wpAny_newFunctionEnv_cells S.kind kinds (fun env0 he0 s1 inC => ?_)
  cases he0
  refine ⟨hLim.keeps inC.toInCall.keep, codeAny_func ?_⟩
  obtain ⟨t, ht, hq⟩ := hbody cdv A outer s H vs Q E q (room.deeper _) hsp
  have J := L2H.inv_startH (CX := L2.CX P w) (qual := qual) (cd := cdv) (f := f) (E := E) S hpin en hl vals inC
  refine wpAny_mono (ht.run [] s1 (L2.start N vs) H _ J hq) (fun fl s' hs => ?_) (fun e s' hs => hs)
  cases fl with
  | ret u =>
    obtain ⟨v, σ', H', J', rv, qv⟩ := hs
    exact ⟨v, H', J'.os, J'.bare, J'.base, J'.hok, rv, qv⟩
  | next =>
    obtain ⟨σ', H', J', qv⟩ := hs
    exact ⟨V.non, H', J'.os, J'.bare, J'.base, J'.hok, rfl, qv⟩
  | brk =>
    obtain ⟨_, _, _, z⟩ := hs
    cases z
  | cont =>
    obtain ⟨_, _, _, z⟩ := hs
    cases z
theorem pe_callW {X : Cx} {k : Nat} {f a : Addr} {oe : Obj} {pn : List (Addr × Obj)} {fd : FuncData} {ps : List Str} {sp : Addr × Obj → Sp} {x : Str} {p pos : Pos} {e : Expr} {es : List Expr} {t : TA} (Fk : FnW X.prog X.w X.K X.mg X.base k f fd ps sp) (hr : L2H.RoomH k (X.suite a ((a, oe) :: pn)).A)
    (hg : Gl X x) (hm : X.mg x = some (.ref f)) (hk : PySem.W.keepIn X.K (.ref f) = true) (hb : Binds X.K fd ps []) (ha : PA (X.suite a ((a, oe) :: pn)) (e :: es) t) (hdb : (x == ("__debug__" : Str)) = false := by decide)
    (he : starEach (e :: es) X.env = (false, eval e X.env) :: starEach es X.env := by rfl) (hpl : (backTo pos (starEach es X.env)).any (·.1) = false := by rfl) :
    PE (X.suite a ((a, oe) :: pn)) (.Call (.Name x p) (e :: es) [] pos) (fun σ H Q => t σ H fun vs H1 => sp (a, oe) vs H1 Q fun _ _ _ => False) := by
  refine ⟨fun pins s σ H Q I h => ?_⟩
  refine wpAny_Call_Name_kw (ld_glob (X := X.suite a ((a, oe) :: pn)) I hg hm ?_ hdb)
  refine PySem.W.callWith_K (h₀ := X.base) I.ok.mod.kin hk (thn (ha.run pos pins s σ H _ I h) fun us s1 ⟨vs, H1, I1, rv, hsp⟩ => ⟨I1.kIn, ?_⟩) he hpl
  have hl : us.length = ps.length := by rw [← rv.length]; exact Fk.len _ _ _ _ _ hsp
  have bind := hb s1 us I1.kIn (by rw [List.append_nil]; exact hl)
  rw [List.append_nil] at bind
  have P1 := I1.pin (a, oe) (List.mem_append_left _ List.mem_cons_self)
  have hpin : L2H.PinOk X.stack H1 s1 (a, oe) := ⟨P1.1, P1.2.1, fun hmem => (List.mem_cons.mp (I1.stkSub a hmem)).elim P1.2.2.1 P1.2.2.2.1, P1.2.2.2.2⟩
  refine wpAny_call (codeAny_mono (Fk.run _ X.stack s1 H1 ⟨us, []⟩ us vs Q _ (a, oe) hr hpin I1.env0 bind rv hsp) fun r s' hq => ?_)
  cases r with
  | error e =>
    obtain ⟨_, _, _, _, _, _, _, _, _, _, _, _, z⟩ := hq
    exact z.elim
  | ok fl =>
    cases fl with
    | ret u => exact I1.after hq
    | next => cases hq
    | brk => cases hq
    | cont => cases hq
/-- isinstance of the caught error -/
theorem call_isEx {X : Cx} {a D : Addr} {oe : Obj} (C : ExcC X.K D) (hz : Zc (.ref D) none oe) (hf : ∃ vs, oe.data = .fields vs) (hpn : (a, oe) ∈ X.pn) : CallR X (.builtin "isinstance") (rIsE X.K D a) := by
  intro pins s σ H xs us Q I r h
  obtain ⟨c, cv, b, rfl, hcv, hkit, q⟩ := h
  obtain ⟨u1, u2, rfl, r1, r2⟩ := vals2 r
  cases (show u1 = Value.ref a from r1)
  cases hcv _ r2
  have hget := (I.pin (a, oe) (List.mem_append_left _ hpn)).1
  obtain ⟨vs, hv⟩ := hf
  have J : PySem.W.InstAt s.heap a oe D none := by
    cases oe
    obtain ⟨h1, h2⟩ := hz
    dsimp only at h1 h2 hv
    subst h1 h2 hv
    exact ⟨hget, rfl, rfl, trivial⟩
  exact PySem.W.kia_one (PySem.W.handS_kitx_exc C.hg C.hk C.hs C.hd C.ha C.hn C.ht C.hm) I.kIn J hkit (fun z => nomatch z) fun tk => ⟨.bl b, H, I.kept (t' := tk) fun _ _ z => z, rfl, q⟩
end PD

set_option Elab.async false
set_option linter.all false
set_option maxRecDepth 100000
set_option maxHeartbeats 4000000
/-! PDm: more operations; promises by name; calls of a list's defs; isinstance of the caught error. -/
namespace PD
open PySem PySem.Spec PyProof.Rows L2 RZ

/-! ### list * int, the list only read -/
def rRepD (K : PySem.W.Frag) : R2 := fun x y H Q => ∃ l k xs, ∃ B : Bs, B.2.2 = K ∧ x = .ref l ∧ y = .int k ∧ Rm B H l xs ∧ -(2 ^ 63) ≤ k ∧ k < 2 ^ 63 ∧ xs.length * k.toNat ≤ sizeLine ∧ ∀ p, H p = none → Q (.ref p) (upd H p (.lst (List.replicate k.toNat xs).flatten))
theorem op_repD {X : Cx} : OpR X (binaryOp .Mult) (rRepD X.K) := by
  intro pins s σ H x y v u Q I rx ry h
  obtain ⟨l, k, xs, B, eB, rfl, rfl, hR, h1, h2, hz, q⟩ := h
  cases rx
  obtain ⟨t, rfl⟩ := ry
  obtain ⟨_, its, n, rv, hl, e⟩ := lstR I eB hR
  have hsz : its.toArray.size * k.toNat ≤ sizeLine := by simpa [← hl] using hz
  have hc1 : ¬ its.toArray.size * k.toNat > (2 ^ 63 - 1) / 8 := by
    have z : (sizeLine : Nat) ≤ (2 ^ 63 - 1) / 8 := by decide
    omega
  have hc2 : ¬ (!Builtin.List.listFitsIndex k) = true := by simp [fitsIndex_both h1 h2]
  have hc3 : ¬ Builtin.List.listTooLong (its.toArray.size * k.toNat) = true := by rw [notLongL hsz]; exact Bool.false_ne_true
  have hf : List.foldl (fun a b => a ++ b) #[] (List.replicate (if its.toArray.isEmpty = true then 0 else k.toNat) its.toArray) = (List.replicate k.toNat its).flatten.toArray := by
    cases its with
    | nil => simp
    | cons a r => rw [if_neg (by simp)]; exact (foldl_rep (a :: r) k.toNat []).trans (by simp)
  refine wpAny_binaryOp_repeat_ref (T := "list") (U := "int") (by decide) ⟨_, e, rfl⟩ (fun s2 => typeIs_int s2 k t) noFill_list_mul F.fills_int_mul F.slot_int_rmul repeat_list F.slot_int_index.lookup ?_
  refine call_meets F.slot_int_rmul (typeIs_int s k t) F.entry_int_rmul (F.args_int_rmul_2 _ _) (int___rmul___int_list k t l its.toArray n) ⟨e, rfl, ⟨_, e, rfl⟩, ?_⟩
  refine call_meets F.slot_list_mul ⟨_, e, rfl⟩ F.entry_list_mul (F.args_list_mul_2 _ _) (AutoListH.list___mul___list_int_3 l its.toArray n k t hc2 hc1 hc3) ⟨e, ?_⟩
  rw [hf]
  refine ⟨.ref _, _, I.lnew (t' := s.toks) (rv.rep k.toNat) ?_, rfl, q _ I.fresh⟩
  rw [PyProof.Rows.lm_len_rep_flat, Nat.mul_comm]
  exact hz
def rMulA (K : PySem.W.Frag) : R2 := fun x y H Q => rI CMul (fun i j => .int (i * j)) x y H Q ∨ rI CMulW (fun i j => .int (i * j)) x y H Q ∨ rRepD K x y H Q ∨ rRepT K x y H Q
theorem op_mulA {X : Cx} : OpR X (binaryOp .Mult) (rMulA X.K) := op_mul.or (op_mulW.or (op_repD.or op_repT))
theorem len_rep {α : Type} (a : List α) (k : Nat) : (List.replicate k a).flatten.length = k * a.length := by simp
theorem pv_mul {B : Bs} : PV2 B (rMulA B.2.2) .fz mulD := by
  intro x y d e H W Q z hx hy hz hW k
  unfold mulD at hz
  split at hz
  · split at hz
    · rename_i i j hc
      cases hz
      rw [Bool.or_eq_true, Bool.or_eq_true] at hc
      unfold smallI wideI at hc
      simp only [Bool.and_eq_true, decide_eq_true_eq] at hc
      rcases hc with hc | hc
      · exact .inl ⟨i, j, rq_int hx, rq_int hy, hc, k.int⟩
      · exact .inr (.inl ⟨i, j, rq_int hx, rq_int hy, hc, k.int⟩)
    · cases hz
  · split at hz
    · rename_i a j hc
      cases hz
      unfold mulD.smallK at hc
      simp only [Bool.and_eq_true, decide_eq_true_eq] at hc
      obtain ⟨p, xs, rfl, ra, la, qa⟩ := rq_list hx
      have hl : (List.replicate j.toNat a).flatten.length ≤ lim := by rw [len_rep, Nat.mul_comm]; exact hc.2
      exact .inr (.inr (.inl ⟨p, j, xs, B, rfl, rfl, rq_int hy, ra, by omega, by omega, by rw [qa.length]; exact lim_size hc.2, fun p hp => k.lstF hp (qa.rep _) hl hW⟩))
    · cases hz
  · split at hz
    · rename_i a j hc
      cases hz
      simp only [Bool.and_eq_true, decide_eq_true_eq] at hc
      obtain ⟨p, xs, rfl, ra, na, la, qa⟩ := rq_tup hx
      have hl : (List.replicate j.toNat a).flatten.length ≤ lim := by
        rw [len_rep]
        have : j.toNat * a.length ≤ 1000 * 1000 := Nat.mul_le_mul (by omega) hc.2
        exact this
      refine .inr (.inr (.inr ⟨p, j, xs, rfl, rq_int hy, .inl ra, fun z => ?_, by omega, by omega, by rw [qa.length]; omega, fun p hp => k.tup hp (qa.rep _) hl hW⟩))
      subst z
      exact hc.1.1.1 (List.length_eq_zero_iff.mp (by simpa using qa.length.symm))
    · cases hz
  · cases hz

/-! ### extend, count, index -/
def rExtR (K : PySem.W.Frag) : V → List V → Hp → VK → Prop := fun x vs H Q => ∃ l b xs zs, ∃ B : Bs, B.2.2 = K ∧ x = .ref l ∧ vs = [.ref b] ∧ H l = some (.lst xs) ∧ Rm B H b zs ∧ xs.length + zs.length ≤ sizeLine ∧ Q .non (upd H l (.lst (xs ++ zs)))
theorem mt_extR {X : Cx} : MtR X "list.extend" (rExtR X.K) := by
  intro pins s σ H x vs v us Q I rx rv h
  obtain ⟨l, b, xs, zs, B, eB, rfl, rfl, hH, hB, hz, q⟩ := h
  cases rx
  obtain ⟨u, rfl, ru⟩ := rv.one
  cases ru
  obtain ⟨_, its, n, r1, l1, e1⟩ := I.lstM hH
  obtain ⟨_, jts, m, r2, l2, e2⟩ := lstR I eB hB
  have hs : its.toArray.size + jts.toArray.size ≤ sizeLine := by simpa [← l1, ← l2] using hz
  refine call_meets F.slot_list_extend ⟨_, e1, rfl⟩ F.entry_list_extend (F.args_list_extend_2 _ _) (AutoSeq1.list_extend_list_list_0 l its.toArray n b jts.toArray m (by rw [notLongL hs, Bool.and_false]; exact Bool.false_ne_true) (by simp at hs ⊢; omega) (by omega)) ⟨e1, e2, ?_⟩
  refine ⟨.non, _, I.lset (its' := its ++ jts) hH e1 (by simp) (r1.append r2) ?_, rfl, q⟩
  simpa using hz
theorem pv_ext {B : Bs} : PVmu B (rExtR B.2.2) extD := by
  intro l xs ds ys es H W Q z ds' hH hl ra rb hg k
  match es, rb, hg with
  | [], _, hg => simp [extD] at hg
  | [.list bs], rb, hg =>
    cases rb with
    | cons r rn =>
      cases rn
      simp only [extD] at hg
      split at hg
      · rename_i hlt
        cases hg
        cases r with
        | lst rd lb qb => exact ⟨l, _, xs, _, B, rfl, rfl, rfl, hH, rd.rm, by rw [ra.length, qb.length]; exact lim_size hlt, k .non _ .non (ra.append qb)⟩
      · cases hg
  | [.none], _, hg => simp [extD] at hg
  | [.bool _], _, hg => simp [extD] at hg
  | [.int _], _, hg => simp [extD] at hg
  | [.str _], _, hg => simp [extD] at hg
  | [.tuple _], _, hg => simp [extD] at hg
  | [.dict _], _, hg => simp [extD] at hg
  | _ :: _ :: _, _, hg => simp [extD] at hg
def flatD : D → Bool
  | .none => true
  | .bool _ => true
  | .int _ => true
  | .str _ => true
  | _ => false
theorem flat_rq {B : Bs} {H : Hp} {W : Wr} {v : V} {d : D} (h : Rq B H W v d) (f : flatD d = true) : flatV v = true := by
  cases d with
  | none => rw [rq_none h]; rfl
  | bool b => rw [rq_bool h]; rfl
  | int b => rw [rq_int h]; rfl
  | str b => rw [(rq_str h).1]; rfl
  | _ => cases f
def eqF : D → D → Bool
  | .none, .none => true
  | .bool a, .bool b => a == b
  | .bool a, .int b => (if a then 1 else 0) == b
  | .int a, .bool b => a == (if b then 1 else 0)
  | .int a, .int b => a == b
  | .str a, .str b => a == b
  | _, _ => false
theorem eqF_V {B : Bs} {H : Hp} {W : Wr} {v u : V} {d e : D} (h : Rq B H W v d) (h' : Rq B H W u e) (f : flatD d = true) (f' : flatD e = true) : eqV v u = eqF d e := by
  cases d with
  | none => rw [rq_none h]; cases e with
    | none => rw [rq_none h']; rfl
    | bool b => rw [rq_bool h']; rfl
    | int b => rw [rq_int h']; rfl
    | str b => rw [(rq_str h').1]; rfl
    | _ => cases f'
  | bool b => rw [rq_bool h]; cases e with
    | none => rw [rq_none h']; rfl
    | bool b => rw [rq_bool h']; rfl
    | int b => rw [rq_int h']; rfl
    | str b => rw [(rq_str h').1]; rfl
    | _ => cases f'
  | int b => rw [rq_int h]; cases e with
    | none => rw [rq_none h']; rfl
    | bool b => rw [rq_bool h']; rfl
    | int b => rw [rq_int h']; rfl
    | str b => rw [(rq_str h').1]; rfl
    | _ => cases f'
  | str b => rw [(rq_str h).1]; cases e with
    | none => rw [rq_none h']; rfl
    | bool b => rw [rq_bool h']; rfl
    | int b => rw [rq_int h']; rfl
    | str b => rw [(rq_str h').1]; rfl
    | _ => cases f'
  | _ => cases f
def rCntF (K : PySem.W.Frag) : V → List V → Hp → VK → Prop := fun x xs H Q => ∃ (p : Addr) (ys : List V) (y : V), x = .ref p ∧ xs = [y] ∧ SqL K H p ys ∧ flatV y = true ∧ ys.all flatV = true ∧ Q (.int (ys.countP fun z => eqV z y : Nat)) H
theorem cnt_eqU {x : V} : ∀ {xs : List V} {us : List Value}, Vals xs us → xs.all flatV = true → us.countP (eqU x) = xs.countP fun y => eqV y x
  | _, _, .nil, _ => rfl
  | y :: xs, u :: us, .cons r t, f => by
    rw [List.all_cons, Bool.and_eq_true] at f
    rw [List.countP_cons, List.countP_cons, eqU_of r f.1, cnt_eqU t f.2]
theorem mt_cntF {X : Cx} : MtR X "list.count" (rCntF X.K) := by
  intro pins s σ H x xs v us Q I rx rxs h
  obtain ⟨p, ys, y, rfl, rfl, hs, fy, fys, q⟩ := h
  cases rx
  obtain ⟨u, rfl, ru⟩ := rxs.one
  obtain ⟨its, rv, ⟨ob, n, ho, hc, hdn, hd⟩, hlen⟩ := I.list hs
  cases ob
  simp only at hc hd
  subst hc hd
  refine call_meets F.slot_list_count ⟨_, ho, rfl⟩ F.entry_list_count (F.args_list_count_2 _ _) (SeqAt.list_countAt p its.toArray n _ _ u (eqU y)) ⟨ho, fun w hw => mem_eqAt ru fy rv fys w (by simpa using hw), ?_⟩
  have ec : its.toArray.toList.countP (eqU y) = ys.countP fun z => eqV z y := cnt_eqU rv fys
  rw [ec]
  exact ⟨.int _, H, I.tok _, ⟨_, rfl⟩, q⟩
def cntD : D → List D → Option D
  | .list ds, [e] => if (ds.all flatD && flatD e) = true then some (.int (ds.countP fun z => eqF z e : Nat)) else none
  | _, _ => none
theorem flat_all {B : Bs} {H : Hp} {W : Wr} : ∀ {ds : List D} {vs : List V}, RpAll B H W vs ds → ds.all flatD = true → vs.all flatV = true
  | [], _, h, _ => by cases h; rfl
  | d :: ds, _, h, f => by
    rw [List.all_cons, Bool.and_eq_true] at f
    cases h with
    | cons a b => rw [List.all_cons, flat_rq (.inl a) f.1, flat_all b f.2]; rfl
theorem cnt_V {B : Bs} {H : Hp} {W : Wr} {u : V} {e : D} (h' : Rq B H W u e) (f' : flatD e = true) : ∀ {ds : List D} {vs : List V}, RpAll B H W vs ds → ds.all flatD = true → (vs.countP fun z => eqV z u) = ds.countP fun z => eqF z e
  | [], _, h, _ => by cases h; rfl
  | d :: ds, _, h, f => by
    rw [List.all_cons, Bool.and_eq_true] at f
    cases h with
    | cons a b => rw [List.countP_cons, List.countP_cons, eqF_V (.inl a) h' f.1 f', cnt_V h' f' b f.2]
theorem pv_cnt {B : Bs} : PVmt B (rCntF B.2.2) .fz cntD := by
  intro x xs d ds H W Q z hx hxs hz hW k
  match d, ds, hxs, hz with
  | .list bs, [e], hxs, hz =>
    simp only [cntD] at hz
    split at hz
    · rename_i hc
      rw [Bool.and_eq_true] at hc
      cases hz
      obtain ⟨u, rfl, ru⟩ := rqAll1 hxs
      obtain ⟨p, ys, rfl, rd, l, qa⟩ := rq_list hx
      exact ⟨p, ys, u, rfl, rfl, rd.sq, flat_rq ru hc.2, flat_all qa hc.1, by rw [cnt_V ru hc.2 qa hc.1]; exact k.int⟩
    · cases hz
  | .list _, [], _, hz => simp [cntD] at hz
  | .list _, _ :: _ :: _, _, hz => simp [cntD] at hz
  | .none, _, _, hz => simp [cntD] at hz
  | .bool _, _, _, hz => simp [cntD] at hz
  | .int _, _, _, hz => simp [cntD] at hz
  | .str _, _, _, hz => simp [cntD] at hz
  | .tuple _, _, _, hz => simp [cntD] at hz
  | .dict _, _, _, hz => simp [cntD] at hz
def idxD : D → List D → Option D
  | .list ds, [e] => if (ds.all flatD && flatD e) = true then (ds.findIdx? fun z => eqF z e).map fun i => .int (i : Nat) else none
  | _, _ => none
theorem pv_idx {B : Bs} : PVmt B (rIndex B.2.2) .fz idxD := by
  intro x xs d ds H W Q z hx hxs hz hW k
  match d, ds, hxs, hz with
  | .list bs, [e], hxs, hz =>
    simp only [idxD] at hz
    split at hz
    · rename_i hc
      rw [Bool.and_eq_true] at hc
      obtain ⟨j, hj, rfl⟩ := Option.map_eq_some_iff.mp hz
      obtain ⟨u, rfl, ru⟩ := rqAll1 hxs
      obtain ⟨p, ys, rfl, rd, l, qa⟩ := rq_list hx
      obtain ⟨hlt, h1, h2⟩ := List.findIdx?_eq_some_iff_getElem.mp hj
      obtain ⟨w, hw, rw_⟩ := qa.get (List.getElem?_eq_getElem hlt)
      have fl : ∀ (m : Nat) d, bs[m]? = some d → flatD d = true := fun m d hm => List.all_eq_true.mp hc.1 d (List.mem_of_getElem? hm)
      refine ⟨p, ys, u, j, w, rfl, rfl, rd.sq, flat_rq ru hc.2, flat_all qa hc.1, hw, ?_, fun m z' hm hz' => ?_, k.int⟩
      · rw [eqF_V (.inl rw_) ru (fl j _ (List.getElem?_eq_getElem hlt)) hc.2]; exact h1
      · obtain ⟨d', hd', rd'⟩ := qa.getV hz'
        rw [eqF_V (.inl rd') ru (fl m _ hd') hc.2]
        have hml : m < bs.length := (List.getElem?_eq_some_iff.mp hd').1
        have := h2 m hm
        rw [List.getElem?_eq_getElem hml] at hd'
        cases hd'
        simpa using this
    · cases hz
  | .list _, [], _, hz => simp [idxD] at hz
  | .list _, _ :: _ :: _, _, hz => simp [idxD] at hz
  | .none, _, _, hz => simp [idxD] at hz
  | .bool _, _, _, hz => simp [idxD] at hz
  | .int _, _, _, hz => simp [idxD] at hz
  | .str _, _, _, hz => simp [idxD] at hz
  | .tuple _, _, _, hz => simp [idxD] at hz
  | .dict _, _, _, hz => simp [idxD] at hz

theorem ixN_lt {n j : Nat} {i : Int} (h : ixN n i = some j) : j < n := by
  unfold ixN at h
  split at h
  · split at h
    · cases h; omega
    · cases h
  · split at h
    · cases h; omega
    · cases h
/-! ### a def's promise, by its name -/
structure KnF (P : Program) (w : World) (K : PySem.W.Frag) (mg : Str → Option Value) (base : Heap) (x : Str) (lev : Nat) (ps : List Str) (sp : Sp) (f : Addr) : Prop where
  g : mg x = some (.ref f)
  kp : PySem.W.keepIn K (.ref f) = true
  ok : ∃ fd, Binds K fd ps [] ∧ FnOk P w K mg base (L2.CX P w) lev f fd ps sp
def Kn (P : Program) (w : World) (K : PySem.W.Frag) (mg : Str → Option Value) (base : Heap) (x : Str) (lev : Nat) (ps : List Str) (Γ : Nat → T) (cl : Nat → Value) (p : Option Nat) (n : Nat) (tr : T) (m : List D → Res D) : Prop := ∃ f, KnF P w K mg base x lev ps (spF (P, w, K) Γ cl p n tr m) f
section
variable {X : Cx} {G : Sg} {W : WX} {e : Expr} {es : List Expr} {fs : Env → Res (List Arg)} {x : Str} {pos pp : Pos} {ps : List Str} {lev j : Nat} {Γc : Nat → T} {n : Nat} {tr : T} {m : List D → Res D}
theorem dx_kn (p : Option (Nat × Nat)) (Fk : Kn X.prog X.w X.K X.mg X.base x lev ps Γc G.cl (p.map Prod.fst) n tr m) (hB : G.B = (X.prog, X.w, X.K)) (tk : Takes X W) (hr : Room j X.A) (hl : lev ≤ j) (hg : Gl X x)
    (hΓ : fzAll Γc (p.map Prod.fst) n = true) (hp : ∀ q, p = some q → Γc q.1 = G.Γ q.2) (ha : DA X G W (e :: es) fs) (hdb : (x == ("__debug__" : Str)) = false := by decide) (he : starEach (e :: es) X.env = (false, eval e X.env) :: starEach es X.env := by rfl) (hpl : (backTo pos (starEach es X.env)).any (·.1) = false := by rfl) :
    DX X G W tr (.Call (.Name x pp) (e :: es) [] pos) (eCall n p m fs) := by
  obtain ⟨f, hm, hk, fd, hb, hf⟩ := Fk
  rw [← hB] at hf
  exact dx_call (p := p) tk hf (hr.mono hl) hg hm hk hb hΓ hp ha hdb he hpl
/-! ### [f, g, ..][i](..) -/
def tFs (l : List Addr) : TA := fun _ H Q => Q (l.map V.ref) H
theorem pa_fs_nil : PA X [] (tFs []) := pa_nil
theorem pa_fs_cons {f : Addr} {l : List Addr} {p : Pos} (hg : Gl X x) (hm : X.mg x = some (.ref f)) (h : PA X es (tFs l)) (hd : (x == ("__debug__" : Str)) = false := by decide) (hs : starEach (.Name x p :: es) X.env = (false, eval (.Name x p) X.env) :: starEach es X.env := by rfl) : PA X (.Name x p :: es) (tFs (f :: l)) :=
  pa_cons (pe_glob (v := .ref f) hg hm rfl hd) h hs
def eCallIx (k n : Nat) (ms : Nat → List D → Res D) (fi : Env → Res Arg) (fs : Env → Res (List Arg)) : Env → Res D := fun ρ => bnd (fi ρ) fun a ρ1 => match deref ρ1 a with
  | some (.int i) => match ixN k i with
    | some j => bnd (fs ρ1) fun as ρ2 => callM n none (ms j) as ρ2
    | none => .err
  | _ => .err
theorem dx_callIx {nm : List Expr} {ix : Expr} {p1 p2 : Pos} {l : List Addr} {fi : Env → Res Arg} {ms : Nat → List D → Res D} (hl : PA X nm (tFs l)) (hk : l.length ≤ sizeLine)
    (Fk : ∀ i f, l[i]? = some f → PySem.W.keepIn X.K (.ref f) = true ∧ ∃ fd ps Γ, Binds X.K fd ps [] ∧ fzAll Γ none n = true ∧ FnOk X.prog X.w X.K X.mg X.base (L2.CX X.prog X.w) lev f fd ps (spF (X.prog, X.w, X.K) Γ G.cl none n tr (ms i)))
    (hB : G.B = (X.prog, X.w, X.K)) (tk : Takes X W) (hr : Room j X.A) (hlv : lev ≤ j) (hi : DO X G W ix fi) (hpi : PlainIx ix) (ha : DA X G W (e :: es) fs) (he : starEach (e :: es) X.env = (false, eval e X.env) :: starEach es X.env := by rfl) (hpl : (backTo pos (starEach es X.env)).any (·.1) = false := by rfl)
    (hev : eval (.Call (.Subscript (.List nm p1) ix p2) (e :: es) [] pos) X.env = (do callWith pos (← eval (.Subscript (.List nm p1) ix p2) X.env) [] (backTo pos (starEach (e :: es) X.env)) (backToKw pos (keywordEach [] X.env))) := by rfl) :
    DX X G W tr (.Call (.Subscript (.List nm p1) ix p2) (e :: es) [] pos) (eCallIx l.length n ms fi fs) := by
  refine ⟨fun pins s σ H Q I h => ?_⟩
  obtain ⟨F0, ρ, E, g⟩ := h
  refine Call_ (thn ((pe_ix ix_seq (pe_lst hl) hi hpi).run pins s σ H (fun v H1 => ∃ jx f F1 ρ1, v = .ref f ∧ l[jx]? = some f ∧ EnvOk G σ ρ1 H1 F1 ∧ Go G W σ (bnd (fs ρ1) fun as ρ2 => callM n none (ms jx) as ρ2) H1 F1 fun d _ H' F' Fl => ∀ v, Own G.B H' (Wof F' (G.add Fl).O) tr v d Fl → Q v H') I ?_) fun u s1 ⟨v, H1, I1, r1, q1⟩ => ?_) hev
  · refine ⟨by simpa using hk, fun p hp => ?_⟩
    have E' : EnvOk G σ ρ (upd H p (.lst (l.map V.ref))) F0 := E.ext (ext_upd hp)
    have g' := Go.after g (Evo.of_ext (F := F0) (ext_upd (o := .lst (l.map V.ref)) hp))
    refine tO_bind E' g' fun y a1 ρ1 H1 F1 E1 o1 g1 ev1 => ?_
    cases e1 : deref ρ1 a1 with
    | none => rw [e1] at g1; exact g1.elim
    | some d =>
      cases d with
      | int i =>
        simp only [e1] at g1
        cases e2 : ixN l.length i with
        | none => simp only [e2] at g1; exact g1.elim
        | some jx =>
          simp only [e2] at g1
          have hpin : ∀ i, p ∉ F0 i := fun i hi => by
            obtain ⟨o, e⟩ := E.hv i p hi
            rw [hp] at e; cases e
          have hL : H1 p = some (.lst (l.map V.ref)) := ev1.keep p _ upd_same hpin
          have hat : L2.atI (l.map V.ref) i = (l.map V.ref)[jx]? := by
            unfold L2.atI
            rw [List.length_map, e2]; rfl
          have hjx : jx < l.length := ixN_lt e2
          refine .inl ⟨p, l.map V.ref, i, .ref l[jx], rfl, rq_int (o1.rq E1 e1), .inl (.inl hL), ?_, jx, l[jx], F1, ρ1, rfl, List.getElem?_eq_getElem hjx, E1, g1⟩
          rw [hat, List.getElem?_map, List.getElem?_eq_getElem hjx]; rfl
      | _ => simp only [e1] at g1; exact g1.elim
  · obtain ⟨jx, f, F1, ρ1, rfl, hf, E1, g1⟩ := q1
    cases r1
    obtain ⟨kp, fd, ps, Γ, hb, hΓ, hok⟩ := Fk jx f hf
    rw [← hB] at hok
    refine PySem.W.callWith_K (h₀ := X.base) I1.ok.mod.kin kp (thn (ha.run pos pins s1 σ H1 _ I1 (tAs_bind E1 g1 (R := fun vs H2 => spF G.B Γ G.cl none n tr (ms jx) vs H2 Q (WE W σ)) fun vs as ρ2 H2 F2 E2 os g2 _ => call_end (p := none) hΓ (fun q z => nomatch z) E2 os g2)) fun us s2 ⟨vs, H2, I2, r, q⟩ => ⟨I2.kIn, ?_⟩) he hpl
    exact run_fnS hok (hr.mono hlv) hb (passAt tk σ) I2 r q
end
end PD

set_option Elab.async false
set_option linter.all false
set_option maxRecDepth 100000
set_option maxHeartbeats 4000000
/-! PDn: sorted(set(..)), isinstance of the caught error. -/
namespace PD
open PySem PySem.Spec PyProof.Rows L2 RZ

def sset0 : List D → Option D
  | [.list []] => some (.list [])
  | _ => none
section
variable {X : Cx} {G : Sg} {W : WX} {e : Expr} {f : Env → Res Arg} {p1 p2 pos q : Pos} {x y : Str} {pos' : Pos}
theorem dx_sset0 (hB : G.B.2.2 = X.K) (hc : X.calm = true) (hu : X.A.units + 64 < cLine) (hg : Gl X "sorted") (hm : X.mg "sorted" = none) (hg2 : Gl X "set") (hm2 : X.mg "set" = none) (hv : bootBuiltins "sorted" = some (.builtin "sorted")) (hv2 : bootBuiltins "set" = some (.type "set")) (ha : DO X G W e f)
    (he : starEach [e] X.env = (false, eval e X.env) :: starEach [] X.env := by rfl) (hpl : (backTo q (starEach [] X.env)).any (·.1) = false := by rfl)
    (he' : starEach [.Call (.Name "set" p2) [e] [] q] X.env = (false, eval (.Call (.Name "set" p2) [e] [] q) X.env) :: starEach [] X.env := by rfl) (hpl' : (backTo pos (starEach [] X.env)).any (·.1) = false := by rfl) :
    DX X G W (.lst .fz) (.Call (.Name "sorted" p1) [.Call (.Name "set" p2) [e] [] q] [] pos) (eOpN sset0 (aCons f aNil)) :=
  PE.imp (pe_callB (cr_sortedT hc) hg hm hv (pa_cons (pe_callTy (cr_setOfT hc hu) hg2 hm2 hv2 (pa_cons ha pa_nil he) (by decide) (by decide) he hpl) pa_nil he') (by decide) (by decide) he' hpl') fun σ H Q ⟨F, ρ, E, g⟩ => by
    unfold eOpN aCons aNil at g
    have g' : Go G W σ (bnd (f ρ) fun a ρ1 => match derefs ρ1 [a] with | some ds => ofO (sset0 ds) ρ1 | none => .err) H F (fun d _ H' F' Fl => ∀ v, Own G.B H' (Wof F' (G.add Fl).O) (.lst .fz) v d Fl → Q v H') := by
      cases q1 : f ρ with
      | err => rw [q1] at g; exact g
      | exc _ _ => rw [q1] at g; exact g
      | ok a1 ρ1 => rw [q1] at g; exact g
    refine tO_bind E g' fun v a1 ρ1 H1 F1 E1 o1 g1 _ => ?_
    unfold derefs at g1
    cases e1 : deref ρ1 a1 with
    | none => rw [e1] at g1; exact g1.elim
    | some d =>
      rw [e1] at g1
      simp only [derefs, Option.bind_some, Option.map_some] at g1
      have hd : d = .list [] ∨ sset0 [d] = none := by
        cases d with
        | list ds => cases ds with
          | nil => exact .inl rfl
          | cons _ _ => exact .inr rfl
        | _ => exact .inr rfl
      rcases hd with rfl | hd
      · obtain ⟨a, xs, rfl, rd, _, qa⟩ := rq_list (o1.rq E1 e1)
        have hx : xs = [] := by cases qa; rfl
        subst hx
        refine ⟨a, [], rfl, (hB ▸ rd.sq : SqL X.K H1 a []), fun p hp => (nomatch hp), by decide, fun s L hs hL _ => ?_⟩
        have hL0 : L = [] := by
          cases L with
          | nil => rfl
          | cons p _ => exact (nomatch hL p List.mem_cons_self)
        subst hL0
        refine ⟨s, [], 1, 1, rfl, upd_same, fun p hp => (nomatch hp), by decide, fun p hp => (nomatch hp), fun L' r pm _ _ _ hr => ?_⟩
        have : L' = [] := pm.eq_nil
        subst this
        have ex : Ext H1 (upd H1 s (SetTO X.prog X.w s [])) := ext_upd hs
        refine VOut.lst (B := G.B) (W := Wof F1 G.O) (ds := []) (fun v H' Fl k hn nd o => ?_) hr .nil (Nat.zero_le _)
        have g2 := Go.after (G := G) (W := W) (σ := σ) (m := (Res.ok (PyData.list []) ρ1 : Res D)) g1 (Evo.of_ext (F := F1) ex)
        obtain ⟨h3, o'⟩ := g2.fin (E1.ext ex) k hn nd o
        exact h3 v o'
      · rw [hd] at g1; exact g1.elim
/-! ### isinstance of the caught error -/
theorem dx_isE {a D : Addr} {oe : Obj} {i : Nat} {cv : Value} {v : V} {b : Bool} (C : ExcC X.K D) (hz : Zc (.ref D) none oe) (hf : ∃ vs, oe.data = .fields vs) (hpn : (a, oe) ∈ X.pn) (hpi : G.pin i = some (.ref a)) (hN : X.N[i]? = some x) (hvis : Vis X.env.scope x)
    (hg : Gl X "isinstance") (hm : X.mg "isinstance" = none) (hv : bootBuiltins "isinstance" = some (.builtin "isinstance")) (hc : PE X (.Name y p2) (tC v)) (hcv : ∀ u, RelV v u → u = cv) (hk : PySem.W.kitOne X.K (.ref D) cv = some b)
    (hd : (x == ("__debug__" : Str)) = false := by decide) (hcd : (x == ("__classdict__" : Str)) = false := by decide)
    (he : starEach [.Name x pos', .Name y p2] X.env = (false, eval (.Name x pos') X.env) :: starEach [.Name y p2] X.env := by rfl) (he2 : starEach [.Name y p2] X.env = (false, eval (.Name y p2) X.env) :: starEach [] X.env := by rfl) (hpl : (backTo pos (starEach [.Name y p2] X.env)).any (·.1) = false := by rfl) :
    DX X G W .fz (.Call (.Name "isinstance" p1) [.Name x pos', .Name y p2] [] pos) (eC (.bool b)) :=
  PE.imp (pe_callB (call_isEx C hz hf hpn) hg hm hv (pa_cons (pe_var hN hvis hd hcd) (pa_cons hc pa_nil he2) he) (by decide) (by decide) he hpl) fun σ H Q ⟨F, ρ, E, g⟩ =>
    ⟨.ref a, E.pn i _ hpi, v, cv, b, rfl, hcv, hk, Go.done g E _ (.fz (.bl b))⟩
end
end PD

set_option Elab.async false
set_option linter.all false
set_option maxRecDepth 100000
set_option maxHeartbeats 4000000
/-! PDo: helpers for the printed derivations; the def that tells a caught error. -/
namespace PD
open PySem PySem.Spec PyProof.Rows L2 RZ

theorem hu64 {k : Nat} {A : Around} (r : Room k A) : A.units + 64 < cLine := r.units
theorem hu65 {k : Nat} {A : Around} (r : Room k A) : A.units + 65 < cLine := by have := r.un; omega
theorem hu70 {k : Nat} {A : Around} (r : Room k A) : A.units + 70 < cLine := by have := r.un; omega
theorem hu64H {k : Nat} {A : Around} (r : L2H.RoomH k A) : A.units + 64 < cLine := by have := r.un; omega
theorem all1 {P : Nat → Prop} {x : Str} {i : Nat} (h : P i) : ∀ j ∈ [(x, i)].map (fun p : Str × Nat => p.2), P j := fun j hj => by
  have e : j = i := by simpa using hj
  rw [e]; exact h
theorem all2 {P : Nat → Prop} {x y : Str} {i k : Nat} (h : P i) (h' : P k) : ∀ j ∈ [(x, i), (y, k)].map (fun p : Str × Nat => p.2), P j := fun j hj => by
  have e : j = i ∨ j = k := by simpa using hj
  rcases e with e | e <;> rw [e] <;> assumption
theorem all3 {P : Nat → Prop} {x y z : Str} {i k l : Nat} (h : P i) (h' : P k) (h2 : P l) : ∀ j ∈ [(x, i), (y, k), (z, l)].map (fun p : Str × Nat => p.2), P j := fun j hj => by
  have e : j = i ∨ j = k ∨ j = l := by simpa using hj
  rcases e with e | e | e <;> rw [e] <;> assumption
section
variable {X : Cx} {G : Sg} {W : WX} {x : Str} {pos : Pos}
theorem dx_gI {u : Int} (hg : Gl X x) (hm : ∃ tk, X.mg x = some (.int u tk)) (hd : (x == ("__debug__" : Str)) = false := by decide) : DX X G W .fz (.Name x pos) (eC (.int u)) := by
  obtain ⟨tk, h⟩ := hm
  exact dx_globI hg h hd
theorem dx_gS {u : Str} (hg : Gl X x) (hm : ∃ tk, X.mg x = some (.str u tk)) (hl : u.length ≤ lim) (hd : (x == ("__debug__" : Str)) = false := by decide) : DX X G W .fz (.Name x pos) (eC (.str u)) := by
  obtain ⟨tk, h⟩ := hm
  exact dx_globS hg h hl hd
end
/-- a def as it stands behind the top -/
def FnT (K : PySem.W.Frag) (mg : Str → Option Value) (x : Str) (st : Stmt) (ps : List Str) : Prop := ∃ f fd, Fun K x x st f fd ∧ mg x = some (.ref f) ∧ Binds K fd ps []

/-! ### the defs of a written list -/
def FsOk (P : Program) (w : World) (K : PySem.W.Frag) (mg : Str → Option Value) (base : Heap) (cl : Nat → Value) (lev n : Nat) (tr : T) (l : List Addr) (ms : Nat → List D → Res D) : Prop :=
  ∀ i f, l[i]? = some f → PySem.W.keepIn K (.ref f) = true ∧ ∃ fd ps Γ, Binds K fd ps [] ∧ fzAll Γ none n = true ∧ FnOk P w K mg base (L2.CX P w) lev f fd ps (spF (P, w, K) Γ cl none n tr (ms i))
section
variable {P : Program} {w : World} {K : PySem.W.Frag} {mg : Str → Option Value} {base : Heap} {cl : Nat → Value} {lev n : Nat} {tr : T}
theorem fs_nil {ms : Nat → List D → Res D} : FsOk P w K mg base cl lev n tr [] ms := fun i f h => by simp at h
theorem fs_cons {x : Str} {f : Addr} {l : List Addr} {ms : Nat → List D → Res D} {lev' : Nat} {ps : List Str} {Γ : Nat → T} {m : List D → Res D} (k : KnF P w K mg base x lev' ps (spF (P, w, K) Γ cl none n tr m) f) (hl : lev' ≤ lev) (hΓ : fzAll Γ none n = true) (e : ms 0 = m) (h : FsOk P w K mg base cl lev n tr l fun i => ms (i + 1)) :
    FsOk P w K mg base cl lev n tr (f :: l) ms := fun i f' hi => by
  cases i with
  | zero =>
    cases hi
    obtain ⟨fd, hb, ok⟩ := k.ok
    rw [e]
    exact ⟨k.kp, fd, ps, Γ, hb, hΓ, ok.mono hl⟩
  | succ i => exact h i f' (by simpa using hi)
end
/-! ### the def that tells a caught error -/
def spW (B : Bs) (cl : Nat → Value) (wh : Nat → D) : Addr × Obj → Sp := fun q vs H Q E => ∃ cn O, vs = [.ref q.1] ∧ Zc (cl cn) none q.2 ∧ (∃ vs, q.2.data = .fields vs) ∧ (∀ a, O a → ∃ o, H a = some o) ∧ ∀ v H', Ext H H' → Rp B H' O v (wh cn) → Q v H'
def gW (B : Bs) (Γ : Nat → T) (cl : Nat → Value) (O : Wr) (a : Addr) : Sg := ⟨B, Γ, O, fun i => match i with | 0 => some (.ref a) | _ + 1 => none, cl⟩
theorem fn_okW {P : Program} {w : World} {K : PySem.W.Frag} {mg : Str → Option Value} {base : Heap} {x p : Str} {st : Stmt} {f : Addr} {fd : FuncData} {N : List Str} {lev k : Nat} {Γ : Nat → T} {cl : Nat → Value} {wh : Nat → D} {body : Nat → Env → SR} (Fn : Fun K x x st f fd) (S : FnScope N [p] (defScope st)) (hN : N.length = 1 + k)
    (hb : ∀ (cdv : Value) (A : Around) (outer : List PySem.Env) (s : Shared) (H : Hp) (E : XK) (O : Wr) (q : Addr × Obj) (cn : Nat), L2H.RoomH lev (A.deeper (envOfC x (defScope st) s.heap.objs.size f cdv)) → Zc (cl cn) none q.2 → (∃ vs, q.2.data = .fields vs) →
      DSs (L2H.cxH (L2.CX P w) P w K mg base N x (defScope st) f cdv A outer s H E q) (gW (P, w, K) Γ cl O q.1) W0 .fz (defBody st) (body cn))
    (hret : ∀ cn, ∃ ρ, body cn (List.replicate (1 + k) none) = .ret (wh cn) ρ) : FnW P w K mg base (lev + 1) f fd [p] (spW (P, w, K) cl wh) :=
  fn_ofW Fn S (fun q vs H Q E h => by obtain ⟨_, _, rfl, _⟩ := h; rfl) fun cdv A outer s H vs Q E q hr h => by
    obtain ⟨cn, O, rfl, hz, hf, hO, hk⟩ := h
    refine ⟨_, hb cdv A outer s H E O q cn hr hz hf, fun _ => [], List.replicate (1 + k) none, ?_, ?_⟩
    · refine ⟨?_, fun i d e => ?_, fun _ => List.nodup_nil, fun i j a h => (nomatch h), fun i a h => (nomatch h), fun i a h => (nomatch h), hO, fun i v e => ?_, fun _ _ => rfl⟩
      · unfold L2.start
        simp [hN]
        omega
      · rw [List.getElem?_replicate] at e
        split at e <;> cases e
      · cases i with
        | zero =>
          have e' : some (V.ref q.1) = some v := e
          cases e'
          rfl
        | succ i => exact (nomatch e)
    · obtain ⟨ρ, e⟩ := hret cn
      rw [e]
      intro σ' H' F' Fl ev fo E' v o
      obtain ⟨rfl, r⟩ := Own.fz_inv o
      exact hk v H' (fun a o e => ev.keep a o e fun i hi => (nomatch hi)) (r.anti fun a z => .inr (.inl z))
def sWh (wh : Nat → D) (c : Nat) : Env → SR := fun ρ => .ret (wh c) ρ
theorem roomH_mark {k : Nat} {A : Around} {v : Option Value} (r : Room k A) : L2H.RoomH k (A.mark v) := ⟨r.dp, r.un⟩
theorem su_which {X : Cx} {G : Sg} {i lev j : Nat} {x n p : Str} {f : Addr} {fd : FuncData} {wh : Nat → D} {p1 p2 p3 p4 : Pos} (Fk : FnW X.prog X.w X.K X.mg X.base lev f fd [p] (spW G.B G.cl wh)) (hr : Room j X.A) (hl : lev ≤ j) (hg : Gl X x) (hm : X.mg x = some (.ref f)) (hk : PySem.W.keepIn X.K (.ref f) = true) (hb : Binds X.K fd [p] [])
    (hN : X.N[i]? = some n) (hv : Vis X.env.scope n) (hs : starEach [.Name n p3] X.env = (false, eval (.Name n p3) X.env) :: starEach [] X.env := by rfl) (hpl : (backTo p2 (starEach [] X.env)).any (·.1) = false := by rfl) (hdb : (x == ("__debug__" : Str)) = false := by decide) (hd : (n == ("__debug__" : Str)) = false := by decide) (hcd : (n == ("__classdict__" : Str)) = false := by decide) :
    ∀ (a : Addr) (oe : Obj) (cls : Value) (d : Option Addr) (pn : List (Addr × Obj)), Zc cls d oe → (∃ vs, oe.data = .fields vs) → PSs (X.suite a ((a, oe) :: pn)) [.Return (some (.Call (.Name x p1) [.Name n p3] [] p2)) p4] (tSu G W0 .fz i (sWh wh) a cls d) := by
  intro a oe cls d pn hz hf
  refine PSs.imp (pss_one (ps_ret (pe_callW (t := tCons (tVar i) tNil) Fk ((roomH_mark hr).mono hl) hg hm hk hb (pa_cons (X := X.suite a ((a, oe) :: pn)) (pe_var hN hv hd hcd) pa_nil hs) hdb hs hpl))) fun Dn σ H h => ?_
  obtain ⟨cn, F, ρ, rfl, rfl, E, hσ, hn, g⟩ := h
  refine ⟨.ref a, hσ, cn, Wof F G.O, rfl, hz, hf, there_W E, fun v H' k r => ?_⟩
  refine g σ H' F [] (Evo.of_ext k) FlOk.nil (by rw [Sg.add_nil]; exact E.ext k) v ?_
  rw [Sg.add_nil]
  exact .fz r
end PD

set_option Elab.async false
set_option linter.all false
set_option maxRecDepth 100000
set_option maxHeartbeats 4000000
/-! PDp: the operations at data, for the plain laws. -/
namespace PD
open PySem PySem.Spec PyProof.Rows L2 RZ

theorem leD_int (a b : Int) : leD (.int a) (.int b) = some (.bool (decide (a ≤ b))) := by
  unfold leD
  rw [if_pos (show cmpOk (.int a) (.int b) = true from rfl), PySem.W.dataLt_int]
  congr 2
  by_cases q : b < a <;> simp [q] <;> omega
theorem ltD_int (a b : Int) : ltD (.int a) (.int b) = some (.bool (decide (a < b))) := by
  unfold ltD
  rw [if_pos (show cmpOk (.int a) (.int b) = true from rfl), PySem.W.dataLt_int]
theorem gtD_int (a b : Int) : gtD (.int a) (.int b) = some (.bool (decide (b < a))) := by
  unfold gtD
  rw [if_pos (show cmpOk (.int a) (.int b) = true from rfl), PySem.W.dataLt_int]
theorem geD_int (a b : Int) : geD (.int a) (.int b) = some (.bool (decide (b ≤ a))) := by
  unfold geD
  rw [if_pos (show cmpOk (.int a) (.int b) = true from rfl), PySem.W.dataLt_int]
  congr 2
  by_cases q : a < b <;> simp [q] <;> omega
theorem eqD_int (a b : Int) : eqD (.int a) (.int b) = some (.bool (a == b)) := by
  unfold eqD
  rw [if_pos (show (SeqAt.shaped (.int a) && SeqAt.shaped (.int b)) = true from rfl)]
  simp [PyData.eqv]
theorem neD_int (a b : Int) : neD (.int a) (.int b) = some (.bool (!(a == b))) := by
  unfold neD
  rw [if_pos (show (SeqAt.shaped (.int a) && SeqAt.shaped (.int b)) = true from rfl)]
  simp [PyData.eqv]
/-- a whole number within bounds -/
def wh (d : D) (lo hi : Int) : Bool := match d with
  | .int i => decide (lo ≤ i) && decide (i ≤ hi)
  | _ => false
/-! ### evaluation -/
section
variable {ρ : Env} {f g : Env → SR} {fd gd hd : Env → Res D} {fo go ho : Env → Res Arg} {fs : Env → Res (List Arg)} {c c2 : Env → Res Bool} {i j n c' : Nat} {d : D} {T' : Tg} {fi : Env → Res (List D)} {g2 g3 : D → D → Option D} {g1 : D → Option D} {gn : List D → Option D} {gs : D → Option Int → Option Int → Option D} {fl fu : Env → Res (Option Int)}
@[simp] theorem ev_sNil : sNil ρ = .nx ρ := rfl
@[simp] theorem ev_sSeq : sSeq f g ρ = sThen (f ρ) g := rfl
@[simp] theorem ev_sDrop : sDrop fd ρ = bS (fd ρ) fun _ ρ1 => .nx ρ1 := rfl
@[simp] theorem ev_sRet : sRet fd ρ = bS (fd ρ) fun d ρ1 => .ret d ρ1 := rfl
@[simp] theorem ev_sIf : sIf c f g ρ = bS (c ρ) fun b ρ1 => if b = true then f ρ1 else g ρ1 := rfl
@[simp] theorem ev_sSet : sSet i fd ρ = bS (fd ρ) fun d ρ1 => if i < ρ1.length then .nx (ρ1.set i (some d)) else .err := rfl
@[simp] theorem ev_sAsg : sAsg T' fd ρ = bS (fd ρ) fun d ρ1 => match bindT T' d ρ1 with | some ρ2 => .nx ρ2 | none => .err := rfl
@[simp] theorem ev_sExc : sExc c' ρ = .exc c' ρ := rfl
@[simp] theorem ev_sErr : sErr ρ = .err := rfl
@[simp] theorem ev_sFor : sFor T' fi f ρ = bS (fi ρ) fun ds ρ1 => forGo T' f ds ρ1 := rfl
@[simp] theorem ev_eVar : eVar i ρ = ofO (slotD ρ i) ρ := rfl
@[simp] theorem ev_eC : eC d ρ = .ok d ρ := rfl
@[simp] theorem ev_aNil : aNil ρ = .ok [] ρ := rfl
@[simp] theorem ev_aCons : aCons fo fs ρ = bnd (fo ρ) fun a ρ1 => bnd (fs ρ1) fun as ρ2 => .ok (a :: as) ρ2 := rfl
@[simp] theorem ev_eTup : eTup fs ρ = bnd (fs ρ) fun as ρ1 => match valsOf as with | some ds => if ds.length ≤ lim then .ok (.tuple ds) ρ1 else .err | none => .err := rfl
@[simp] theorem ev_eLst : eLst fs ρ = bnd (fs ρ) fun as ρ1 => match valsOf as with | some ds => if ds.length ≤ lim then .ok (.list ds) ρ1 else .err | none => .err := rfl
@[simp] theorem ev_op2 {a b : Arg} : op2 g2 ρ a b = match deref ρ a with | some x => (match deref ρ b with | some y => ofO (g2 x y) ρ | none => .err) | none => .err := rfl
@[simp] theorem ev_eOp2 : eOp2 g2 fo go ρ = bnd (fo ρ) fun a ρ1 => bnd (go ρ1) fun b ρ2 => op2 g2 ρ2 a b := rfl
@[simp] theorem ev_eOp1 : eOp1 g1 fo ρ = bnd (fo ρ) fun a ρ1 => match deref ρ1 a with | some x => ofO (g1 x) ρ1 | none => .err := rfl
@[simp] theorem ev_eOpN : eOpN gn fs ρ = bnd (fs ρ) fun as ρ1 => match derefs ρ1 as with | some ds => ofO (gn ds) ρ1 | none => .err := rfl
@[simp] theorem ev_bOf : bOf fd ρ = bnd (fd ρ) fun d ρ1 => ofO (boolD d) ρ1 := rfl
@[simp] theorem ev_eAnd : eAnd fd gd ρ = bnd (fd ρ) fun d ρ1 => match d with | .bool true => gd ρ1 | .bool false => .ok (.bool false) ρ1 | _ => .err := rfl
@[simp] theorem ev_eOr : eOr fd gd ρ = bnd (fd ρ) fun d ρ1 => match d with | .bool true => .ok (.bool true) ρ1 | .bool false => gd ρ1 | _ => .err := rfl
@[simp] theorem ev_eNot : eNot fd ρ = bnd (fd ρ) fun d ρ1 => match d with | .bool b => .ok (.bool !b) ρ1 | _ => .err := rfl
@[simp] theorem ev_bAnd : bAnd c c2 ρ = bnd (c ρ) fun b ρ1 => if b = true then c2 ρ1 else .ok false ρ1 := rfl
@[simp] theorem ev_bOr : bOr c c2 ρ = bnd (c ρ) fun b ρ1 => if b = true then .ok true ρ1 else c2 ρ1 := rfl
@[simp] theorem ev_bNot : bNot c ρ = bnd (c ρ) fun b ρ1 => .ok (!b) ρ1 := rfl
@[simp] theorem ev_eIf : eIf c fd gd ρ = bnd (c ρ) fun b ρ1 => if b = true then fd ρ1 else gd ρ1 := rfl
@[simp] theorem ev_eChain : eChain g2 g3 fo go ho ρ = bnd (fo ρ) fun a ρ1 => bnd (go ρ1) fun b ρ2 => bnd (op2 g2 ρ2 a b) fun d ρ3 => match d with | .bool true => bnd (ho ρ3) fun c ρ4 => op2 g3 ρ4 b c | .bool false => .ok (.bool false) ρ3 | _ => .err := rfl
@[simp] theorem ev_pNone : pNone ρ = .ok none ρ := rfl
@[simp] theorem ev_pSome : pSome fd ρ = bnd (fd ρ) fun d ρ1 => match d with | .int i => .ok (some i) ρ1 | _ => .err := rfl
@[simp] theorem ev_eSl : eSl gs fo fl fu ρ = bnd (fo ρ) fun a ρ1 => bnd (fl ρ1) fun l ρ2 => bnd (fu ρ2) fun u ρ3 => match deref ρ3 a with | some x => ofO (gs x l u) ρ3 | none => .err := rfl
@[simp] theorem ev_oVal : oVal fd ρ = bnd (fd ρ) fun d ρ1 => .ok (.val d) ρ1 := rfl
@[simp] theorem ev_oSlot : oSlot j ρ = match slotD ρ j with | some _ => .ok (.io j) ρ | none => .err := rfl
@[simp] theorem ev_oLend : oLend j ρ = match slotD ρ j with | some _ => .ok (.lnd j) ρ | none => .err := rfl
@[simp] theorem ev_iOf : iOf fd ρ = bnd (fd ρ) fun d ρ1 => ofO (itemsD d) ρ1 := rfl
@[simp] theorem ev_iRg1 : iRg1 fd ρ = bnd (fd ρ) fun d ρ1 => ofO (rgItems (.int 0) d) ρ1 := rfl
@[simp] theorem ev_iRg2 : iRg2 fd gd ρ = bnd (fd ρ) fun d ρ1 => bnd (gd ρ1) fun e ρ2 => ofO (rgItems d e) ρ2 := rfl
@[simp] theorem ev_iZipD : iZipD fd gd ρ = bnd (fd ρ) fun d ρ1 => bnd (gd ρ1) fun e ρ2 => ofO (zipItems d e) ρ2 := rfl
@[simp] theorem ev_eLc {own : List Nat} : eLc fi T' c fd own ρ = bnd (fi ρ) fun ds ρ1 => bnd (noX (lcGo T' c fd own ds (wipeD ρ1 own))) fun ys ρ2 => .ok (.list ys) (resD ρ1 ρ2 own) := rfl
@[simp] theorem ev_eCall {p : Option (Nat × Nat)} {m : List D → Res D} : eCall n p m fs ρ = bnd (fs ρ) fun as ρ1 => callM n p m as ρ1 := rfl
@[simp] theorem ev_slot0 {x : Option D} : slotD (x :: ρ) 0 = x := rfl
@[simp] theorem ev_slotS {x : Option D} : slotD (x :: ρ) (i + 1) = slotD ρ i := rfl
@[simp] theorem ev_val : deref ρ (.val d) = some d := rfl
@[simp] theorem ev_io : deref ρ (.io j) = slotD ρ j := rfl
@[simp] theorem ev_noX {α : Type} {a : α} : noX (.ok a ρ) = .ok a ρ := rfl
end
/-- a call of a def without changed arguments -/
theorem call1 {ρ : Env} {m : List D → Res D} {a d : D} {os : Env} (h : m [a] = .ok d os) : callM 1 none m [.val a] ρ = .ok d ρ := by simp [callM, argIn, h, putOut]
theorem call2 {ρ : Env} {m : List D → Res D} {a b d : D} {os : Env} (h : m [a, b] = .ok d os) : callM 2 none m [.val a, .val b] ρ = .ok d ρ := by simp [callM, argIn, h, putOut]
theorem call3 {ρ : Env} {m : List D → Res D} {a b c d : D} {os : Env} (h : m [a, b, c] = .ok d os) : callM 3 none m [.val a, .val b, .val c] ρ = .ok d ρ := by simp [callM, argIn, h, putOut]
theorem call4 {ρ : Env} {m : List D → Res D} {a b c e d : D} {os : Env} (h : m [a, b, c, e] = .ok d os) : callM 4 none m [.val a, .val b, .val c, .val e] ρ = .ok d ρ := by simp [callM, argIn, h, putOut]
/-! ### shapes: no dict, at most n deep -/
mutual
def shp : Nat → D → Bool
  | _, .none => true
  | _, .bool _ => true
  | _, .int _ => true
  | _, .str s => PyData.strOk s
  | 0, .list _ => false
  | n + 1, .list ds => shpAll n ds
  | 0, .tuple _ => false
  | n + 1, .tuple ds => shpAll n ds
  | _, .dict _ => false
def shpAll : Nat → List D → Bool
  | _, [] => true
  | n, d :: ds => shp n d && shpAll n ds
end
theorem shpAll_iff {n : Nat} : ∀ {ds : List D}, shpAll n ds = true ↔ ∀ d ∈ ds, shp n d = true
  | [] => by simp [shpAll]
  | d :: ds => by simp [shpAll, shpAll_iff (ds := ds)]
mutual
theorem shp_lay : ∀ (n : Nat) (d : D), shp n d = true → d.canLay0 = true ∧ d.depth ≤ n
  | _, .none, _ => ⟨rfl, Nat.zero_le _⟩
  | _, .bool _, _ => ⟨rfl, Nat.zero_le _⟩
  | _, .int _, _ => ⟨rfl, Nat.zero_le _⟩
  | _, .str s, h => ⟨by simpa [PyData.canLay0, shp] using h, Nat.zero_le _⟩
  | 0, .list _, h => by simp [shp] at h
  | n + 1, .list ds, h => by
    have := shpAll_lay n ds (by simpa [shp] using h)
    exact ⟨by simpa [PyData.canLay0] using this.1, by simp [PyData.depth]; omega⟩
  | 0, .tuple _, h => by simp [shp] at h
  | n + 1, .tuple ds, h => by
    have := shpAll_lay n ds (by simpa [shp] using h)
    exact ⟨by simpa [PyData.canLay0] using this.1, by simp [PyData.depth]; omega⟩
  | _, .dict _, h => by simp [shp] at h
theorem shpAll_lay : ∀ (n : Nat) (ds : List D), shpAll n ds = true → PyData.canLayAll0 ds = true ∧ PyData.depthAll ds ≤ n
  | _, [], _ => ⟨rfl, by simp [PyData.depthAll]⟩
  | n, d :: ds, h => by
    simp only [shpAll, Bool.and_eq_true] at h
    have h1 := shp_lay n d h.1
    have h2 := shpAll_lay n ds h.2
    exact ⟨by rw [PyData.canLayAll0, h1.1, h2.1]; rfl, by simp only [PyData.depthAll]; omega⟩
end
theorem shaped_of {n : Nat} {d : D} (h : shp n d = true) (hn : n ≤ 64) : SeqAt.shaped d = true := by
  have := shp_lay n d h
  unfold SeqAt.shaped
  rw [this.1, Bool.true_and]
  exact decide_eq_true (Nat.le_trans this.2 hn)
theorem eqD_shp {n m : Nat} {d e : D} (h1 : shp n d = true) (h2 : shp m e = true) (hn : n ≤ 64 := by decide) (hm : m ≤ 64 := by decide) : eqD d e = some (.bool (PyData.eqv d e)) := by
  unfold eqD
  rw [shaped_of h1 hn, shaped_of h2 hm]; rfl
theorem neD_shp {n m : Nat} {d e : D} (h1 : shp n d = true) (h2 : shp m e = true) (hn : n ≤ 64 := by decide) (hm : m ≤ 64 := by decide) : neD d e = some (.bool (!PyData.eqv d e)) := by
  unfold neD
  rw [shaped_of h1 hn, shaped_of h2 hm]; rfl
/-! ### loops -/
theorem forGo_inv {T : Tg} {body : Env → SR} (I : Nat → Env → Prop) : ∀ (ds : List D) (k : Nat) (ρ : Env), I k ρ →
    (∀ i d ρ, ds[i]? = some d → I (k + i) ρ → ∃ ρ1 ρ2, bindT T d ρ = some ρ1 ∧ (body ρ1 = .nx ρ2 ∨ body ρ1 = .ct ρ2) ∧ I (k + i + 1) ρ2) → ∃ ρ', forGo T body ds ρ = .nx ρ' ∧ I (k + ds.length) ρ'
  | [], k, ρ, h, _ => ⟨ρ, rfl, h⟩
  | d :: ds, k, ρ, h, step => by
    obtain ⟨ρ1, ρ2, h1, h2, h3⟩ := step 0 d ρ rfl h
    obtain ⟨ρ', e, h4⟩ := forGo_inv I ds (k + 1) ρ2 h3 fun i d ρ hd hi => by
      have := step (i + 1) d ρ (by simpa using hd) (by rw [show k + (i + 1) = k + 1 + i by omega]; exact hi)
      rw [show k + (i + 1) + 1 = k + 1 + i + 1 by omega] at this
      exact this
    refine ⟨ρ', ?_, ?_⟩
    · unfold forGo
      rw [h1]
      rcases h2 with h2 | h2 <;> (simp only [h2]; exact e)
    · rw [List.length_cons, show k + (ds.length + 1) = k + 1 + ds.length by omega]; exact h4
theorem lcGo_map {T : Tg} {elt : Env → Res D} {own : List Nat} {ρ : Env} (g : D → D) : ∀ (ds : List D), (∀ d ∈ ds, ∃ ρ1 ρ2, bindT T d ρ = some ρ1 ∧ elt ρ1 = .ok (g d) ρ2 ∧ wipeD ρ2 own = ρ) → lcGo T bYes elt own ds ρ = .ok (ds.map g) ρ
  | [], _ => rfl
  | d :: ds, h => by
    obtain ⟨ρ1, ρ2, h1, h2, h3⟩ := h d List.mem_cons_self
    have ih := lcGo_map (T := T) (elt := elt) (own := own) (ρ := ρ) g ds fun e he => h e (List.mem_cons_of_mem _ he)
    unfold lcGo
    rw [h1]
    simp only [bYes, bnd_ok, if_pos, h2, h3, ih, List.map_cons]
theorem lcGo_filter {T : Tg} {cond : Env → Res Bool} {elt : Env → Res D} {own : List Nat} {ρ : Env} (p : D → Bool) (g : D → D) : ∀ (ds : List D), (∀ d ∈ ds, ∃ ρ1 ρ2, bindT T d ρ = some ρ1 ∧ cond ρ1 = .ok (p d) ρ2 ∧ (p d = false → wipeD ρ2 own = ρ) ∧ (p d = true → ∃ ρ3, elt ρ2 = .ok (g d) ρ3 ∧ wipeD ρ3 own = ρ)) →
    lcGo T cond elt own ds ρ = .ok ((ds.filter p).map g) ρ
  | [], _ => rfl
  | d :: ds, h => by
    obtain ⟨ρ1, ρ2, h1, h2, h3, h4⟩ := h d List.mem_cons_self
    have ih := lcGo_filter (T := T) (cond := cond) (elt := elt) (own := own) (ρ := ρ) p g ds fun e he => h e (List.mem_cons_of_mem _ he)
    unfold lcGo
    rw [h1]
    simp only [h2, bnd_ok]
    cases q : p d with
    | false => simp only [h3 q, ih, List.filter_cons, q]; simp
    | true =>
      obtain ⟨ρ3, h5, h6⟩ := h4 q
      simp only [if_pos, h5, bnd_ok, h6, ih, List.filter_cons, q]
      simp
end PD

set_option Elab.async false
set_option linter.all false
set_option maxRecDepth 100000
set_option maxHeartbeats 4000000
/-! PDq: the head: what the top has written, the law's own promise. -/
namespace PD
open PySem PySem.Spec PyProof.Rows L2 RZ

theorem fnT_of {K : PySem.W.Frag} {h : Heap} {mg : Str → Option Value} {x : Str} {st : Stmt} {ps : List Str} {f : Addr} {oc : Value} {od an : Option Addr} {osl : Array (Option Value)} {kV doc pm cdv ct : Value} (KX : K.In h) (G : h.Ns mainGlobals mg)
    (a : PySem.W.nsIn K mainGlobals x = some (some (.ref f))) (l : K.lookup f = some ⟨oc, od, .func (PySem.W.fnOf x x (defArgs st) (defBody st) (defScope st) .none kV doc pm an cdv ct), osl⟩) (c : PySem.W.codeIn K cdv x = true) (k : PySem.W.keepIn K (.ref f) = true)
    (hb : ∀ (kV doc pm : Value) (an : Option Addr) (cdv ct : Value) (us : List Value), us.length = ps.length → bindArgs (PySem.W.fnOf x x (defArgs st) (defBody st) (defScope st) .none kV doc pm an cdv ct) ⟨us, []⟩ = pure (ps.zip us)) : FnT K mg x st ps :=
  ⟨f, _, fun_mk (st := st) l c k, PySem.W.mg_of KX G a, (fun_mk (st := st) l c k).binds hb⟩
structure ClsF (K : PySem.W.Frag) (A : Addr) : Prop where
  hd : PySem.W.hasDictIn K A = true
  ty : PySem.W.typeIn K (.ref A) = some (.type "type")
structure RaiF (K : PySem.W.Frag) (A CW : Addr) : Prop where
  xc : PySem.W.excIn K A [.type "ValueError", .type "Exception", .type "BaseException", .type "object"] "ValueError.__new__" = true
  kc : PySem.W.keepIn K (.ref A) = true
  sb : PySem.W.subIn K (.ref A) (.type "BaseException") = some true
  sw : PySem.W.subIn K (.ref A) (.ref CW) = some true
  sv : PySem.W.subIn K (.ref A) (.type "ValueError") = some true
  hg : PySem.W.findIn K (.ref A) "__getattribute__" = some (some (.builtin "BaseException.__getattribute__"))
  hk : PySem.W.findIn K (.ref A) "__getattr__" = some none
  ha : PySem.W.findIn K (.ref A) "__class__" = some (some (.builtin "object.__class__"))
  hm : PySem.W.mroIn K A (.type "object") = some true
theorem RaiF.ec {K : PySem.W.Frag} {A CW : Addr} (r : RaiF K A CW) (c : ClsF K A) (hn : PySem.W.specialIn K (.builtin "object.__class__") "__get__" = some (some (.builtin "getset_descriptor.__get__"))) (ht : PySem.W.takesIn K (.builtin "object.__class__") = some true) : ExcC K A :=
  ⟨r.hg, r.hk, r.sb, c.hd, r.ha, hn, ht, r.hm⟩
theorem RaiF.xm {K : PySem.W.Frag} {A CW : Addr} (r : RaiF K A CW) (c : ClsF K CW) (sW : PySem.W.subIn K (.ref CW) (.type "BaseException") = some true) : PySem.W.exmOne K (.ref A) (.ref CW) = some true := PySem.W.exm_ref sW c.hd c.ty r.sw
theorem RaiF.kv {K : PySem.W.Frag} {A CW : Addr} (r : RaiF K A CW) : PySem.W.kitOne K (.ref A) (.type "ValueError") = some true := by
  show PySem.W.kitCls K (.ref A) (.type "ValueError") = some true
  show (if PySem.W.kitMeta "ValueError" = true then PySem.W.subIn K (.ref A) (.type "ValueError") else none) = some true
  rw [if_pos (by decide +kernel)]
  exact r.sv
theorem kit_of_sub {K : PySem.W.Frag} {A C : Addr} {b : Bool} (c : ClsF K C) (h : PySem.W.subIn K (.ref A) (.ref C) = some b) (hs : PySem.W.subIn K (.ref A) (.ref A) = some true) : PySem.W.kitOne K (.ref A) (.ref C) = some b := by
  unfold PySem.W.kitOne
  by_cases e : A = C
  · subst e
    rw [hs] at h
    cases h
    rw [if_pos (beq_self_eq_true _)]
  · rw [if_neg (fun q => e (Value.ref.inj (beq_iff_eq.mp q)))]
    have hd := c.hd
    obtain ⟨cd, hc, _⟩ := PySem.W.any_some hd
    show (if ((PySem.W.clsIn K C).isSome && PySem.W.typeIn K (.ref C) == some (.type "type")) = true then PySem.W.subIn K (.ref A) (.ref C) else none) = some b
    rw [if_pos (by rw [hc, c.ty]; rfl)]
    exact h
/-- the law's promise -/
def spL (B : Bs) : Sp := fun vs H Q _ => ∃ (a : Addr) (ns : List Int), vs = [.ref a] ∧ Rm B H a (ns.map V.int) ∧ ns.length ≤ 63 ∧ ∀ H', Q (.bl true) H'
theorem rp_ints {B : Bs} {H : Hp} {W : Wr} : ∀ ns : List Int, RpAll B H W (ns.map V.int) (ns.map .int)
  | [] => .nil
  | n :: ns => .cons (.int n) (rp_ints ns)
theorem spL_F {B : Bs} {Γ : Nat → T} {cl : Nat → Value} {m : List D → Res D} (hΓ : Γ 0 = .fz) (hm : ∀ ns : List Int, ∃ ρ, m [.list (ns.map .int)] = .ok (.bool true) ρ) (vs : List V) (H : Hp) (Q : VK) (E : XK) (h : spL B vs H Q E) : spF B Γ cl none 1 .fz m vs H Q E := by
  obtain ⟨a, ns, rfl, hr, hl, k⟩ := h
  refine ⟨rfl, fun _ => False, fun _ => [], [.list (ns.map .int)], ⟨rfl, fun i d e => ?_, fun _ => List.nodup_nil, fun i j a h => (nomatch h), fun i a h => (nomatch h), fun i a h => (nomatch h), fun a h => h.elim, fun i v e => (nomatch e), fun _ _ => rfl⟩, fun _ _ => rfl, ?_⟩
  · cases i with
    | zero =>
      cases e
      refine ⟨.ref a, rfl, ?_⟩
      show Own B H _ (Γ 0) (.ref a) (.list (ns.map .int)) []
      rw [hΓ]
      refine .fz (.lst (hr.imp (fun r => ⟨r, fun z => ?_⟩) id) ?_ (rp_ints ns))
      · rcases z with ⟨_, h⟩ | h
        · cases h
        · exact h
      · rw [List.length_map]
        show _ ≤ 1000000
        omega
    | succ i => exact (nomatch e)
  · obtain ⟨ρ, e⟩ := hm ns
    rw [e]
    intro H' F' Fl ev fo E' _ v o
    rw [own_bool o]
    exact k H'
theorem walk_PD {l : PySem.W.OpenLaw} {n lev : Nat} {q : Program} {loose : List Str} {XP : (Str → Option Value) → Heap → Prop} {YP : World → Heap → Prop} {d : DefRec} {K : Params → PySem.W.Frag} {x : Str} (hn : l.most = some n) (hn2 : n ≤ 63) (hdf : d.params.defaults = []) (hr : Room lev callerA)
    (hY : ∀ (w : World) (h : Heap), YP w h → (K w.params).In h)
    (F : ∀ (w : World) (mg : Str → Option Value) (fa : Addr) (h : Heap), (K w.params).In h → h.Ns mainGlobals mg → mg d.name = some (.ref fa) →
      ∃ fd : FuncData, (∀ (s : Shared) (u : Value), BindsTo s fd ⟨[u], []⟩ [(x, u)]) ∧ ∀ base : Heap, (K w.params).In base → base.Ns mainGlobals mg → FnOk l.prog w (K w.params) mg base (L2.CX l.prog w) lev fa fd [x] (spL (l.prog, w, K w.params))) :
    PySem.W.WalkO q loose XP YP l.row.toRowW d [] (fun f vs => PySem.call f vs) := by
  refine Att.attach_call hn hdf fun w s₀ s₁ mg mb fa o pm cd doc a vs ns G Y ho hd hcd hmg hobj hints hlen hg => ?_
  have KX := hY w _ Y
  obtain ⟨fd, hb, hF⟩ := F w mg fa _ KX G.T.g hmg
  have hl := hints.length
  refine law_call KX G.T.g G.T.b G.T.builtins G.T.nolimit hg hobj hints (Nat.le_trans hlen (Nat.le_trans hn2 (by decide))) hr hF hb (fun H hO hS => ⟨a, ns, rfl, ?_, Nat.le_trans hlen hn2, fun _ => rfl⟩) fun H e s' h => ?_
  · rcases hS with hS | ⟨o', its, n', hk, hc, hdt, hdd, hz, hv⟩
    · exact .inl hS
    · have e := KX _ _ hk
      rw [hobj] at e
      cases e
      cases hdd
      exact .inr ⟨vs, _, hk, by rw [List.length_map]; exact Nat.le_trans hlen (Nat.le_trans hn2 (by decide)), hv⟩
  · obtain ⟨_, _, _, _, _, _, _, _, _, _, _, _, z⟩ := h
    exact z
end PD

set_option Elab.async false
set_option linter.all false
set_option maxRecDepth 100000
set_option maxHeartbeats 4000000
/-! PDr: tuple(range(n)), list(range(n)), sorted(a tuple), t[::-1]. -/
namespace PD
open PySem PySem.Spec PyProof.Rows L2 PySem.W

/-! ### tuple(range(n)), list(range(n)) -/
def rgTD (d : D) : Option D := (rgItems (.int 0) d).map .tuple
def rgLD (d : D) : Option D := (rgItems (.int 0) d).map .list
def eR1 (gg : D → Option D) (f : Env → Res D) : Env → Res D := fun ρ => bnd (f ρ) fun d ρ1 => ofO (gg d) ρ1
theorem rgV_rp {B : Bs} {H : Hp} {W : Wr} {a b : Int} : RpAll B H W (rgV a b) (rgD a b) := by
  unfold rgV rgD
  generalize (b - a).toNat = n
  generalize hl : List.range n = l
  clear hl
  induction l with
  | nil => exact .nil
  | cons x l ih => exact .cons (.int _) ih
section
variable {X : Cx} {G : Sg} {W : WX} {e : Expr} {f : Env → Res D} {p p' pos pos' : Pos}
theorem dx_tupRg (hc : X.calm = true) (hg : Gl X "tuple") (hm : X.mg "tuple" = none) (hg2 : Gl X "range") (hm2 : X.mg "range" = none) (h : DX X G W .fz e f)
    (hs : starEach [e] X.env = (false, eval e X.env) :: starEach [] X.env := by rfl)
    (hs2 : starEach [.Call (.Name "range" p') [e] [] pos'] X.env = (false, eval (.Call (.Name "range" p') [e] [] pos') X.env) :: starEach [] X.env := by rfl) :
    DX X G W .fz (.Call (.Name "tuple" p) [.Call (.Name "range" p') [e] [] pos'] [] pos) (eR1 rgTD f) :=
  PE.imp (pe_tupRg hc hg hm (prg_1 hg2 hm2 h hs) hs2) fun σ H Q ⟨F, ρ, E, g⟩ => tX_bind E g fun v d ρ1 H1 F1 E1 r g1 _ => by
    cases d with
    | int b =>
      cases r
      unfold rgTD rgItems at g1
      simp only at g1
      split at g1
      · rename_i ok
        obtain ⟨q1, q2, q3, q4, q5⟩ := rgOk_of ok
        refine ⟨b, rfl, ⟨q1, q2, q3, q4, Nat.le_trans q5 (by decide)⟩, fun q hq => ?_⟩
        refine VOut.tup (B := G.B) (W := Wof F1 G.O) (fun v H' Fl k hn nd o => ?_) hq rgV_rp (by rw [rgD_len]; exact q5) (there_W E1)
        obtain ⟨h3, o'⟩ := Go.fin g1 E1 k hn nd o
        exact h3 v o'
      · exact g1.elim
    | _ => exact g1.elim
theorem dx_lstRg (hc : X.calm = true) (hg : Gl X "list") (hm : X.mg "list" = none) (hg2 : Gl X "range") (hm2 : X.mg "range" = none) (h : DX X G W .fz e f)
    (hs : starEach [e] X.env = (false, eval e X.env) :: starEach [] X.env := by rfl)
    (hs2 : starEach [.Call (.Name "range" p') [e] [] pos'] X.env = (false, eval (.Call (.Name "range" p') [e] [] pos') X.env) :: starEach [] X.env := by rfl) :
    DX X G W (.lst .fz) (.Call (.Name "list" p) [.Call (.Name "range" p') [e] [] pos'] [] pos) (eR1 rgLD f) :=
  PE.imp (pe_listRg hc hg hm (prg_1 hg2 hm2 h hs) hs2) fun σ H Q ⟨F, ρ, E, g⟩ => tX_bind E g fun v d ρ1 H1 F1 E1 r g1 _ => by
    cases d with
    | int b =>
      cases r
      unfold rgLD rgItems at g1
      simp only at g1
      split at g1
      · rename_i ok
        obtain ⟨q1, q2, q3, q4, q5⟩ := rgOk_of ok
        refine ⟨b, rfl, ⟨q1, q2, q3, q4, Nat.le_trans q5 (by decide)⟩, fun q hq => ?_⟩
        refine VOut.lst (B := G.B) (W := Wof F1 G.O) (fun v H' Fl k hn nd o => ?_) hq rgV_rp (by rw [rgD_len]; exact q5)
        obtain ⟨h3, o'⟩ := Go.fin g1 E1 k hn nd o
        exact h3 v o'
      · exact g1.elim
    | _ => exact g1.elim
end

/-! ### t[::-1] -/
section
variable {prog : Program} {w : World} {A : Around} {E : Value → Shared → Prop} {s : Shared}
theorem places_rev (n : Nat) : Builtin.Slice.slicePlaces ((n : Int) - 1) (-1) (-1) = n := by
  unfold Builtin.Slice.slicePlaces
  have h1 : ¬ ((-1 : Int) > 0) := by decide
  simp only [h1, if_false]
  split
  · have : ((n : Int) - 1 - -1 - 1) / (- -1) + 1 = n := by
      rw [show (- -1 : Int) = 1 by decide, Int.ediv_one]; omega
    rw [this, Int.toNat_natCast]
  · show (0 : Int).toNat = n
    simp; omega
theorem pick_rev (xs : Array Value) : ((List.range xs.size).filterMap fun (m : Nat) => xs[((xs.size : Int) - 1 + (m : Int) * (-1)).toNat]?).toArray = xs.toList.reverse.toArray := by
  have e : (fun (m : Nat) => xs[((xs.size : Int) - 1 + (m : Int) * (-1)).toNat]?) = (fun i => xs[i]?) ∘ fun m => xs.size - 1 - m := by
    funext m
    show _ = xs[xs.size - 1 - m]?
    have : ((xs.size : Int) - 1 + (m : Int) * (-1)).toNat = xs.size - 1 - m := by omega
    rw [this]
  rw [e, ← List.filterMap_map, PySem.W.krv_range, List.filterMap_reverse, PySem.W.krv_all]
theorem sliceApplied_rev {sl : Addr} {vl vu vs : Value} {n : Nat} {Q : Int × Int × Nat → Shared → Prop} (hs : s.heap.IsSliceOf sl vl vu vs) (pl : IsPart vl none) (pu : IsPart vu none) (ps : IsPart vs (some (-1)))
    (h : Q ((n : Int) - 1, -1, n) s) : wpAny (model prog w) A (Builtin.Slice.sliceApplied (.ref sl) (pure (n : Int))) Q E s := by
  obtain ⟨os, hos, hcs, hds⟩ := id hs
  unfold Builtin.Slice.sliceApplied Builtin.Slice.sliceFields
  refine wpAny_bind (wpAny_bind (wpAny_field hos hds (x := vl) rfl (wpAny_bind (wpAny_field hos hds (x := vu) rfl (wpAny_bind (wpAny_field hos hds (x := vs) rfl (wpAny_pure ?_)))))))
  refine wpAny_bind (HT.slicePart_ ps ?_)
  show wpAny _ _ (if ((-1 : Int) == 0) = true then _ else _) _ _ s
  rw [if_neg (by decide)]
  refine wpAny_bind (HT.slicePart_ pl (wpAny_bind (HT.slicePart_ pu (wpAny_bind (wpAny_pure ?_)))))
  show wpAny _ _ (pure ((n : Int) - 1, (-1 : Int), Builtin.Slice.slicePlaces ((n : Int) - 1) (-1) (-1))) _ _ s
  rw [places_rev]
  exact wpAny_pure h
theorem getItem_tuple_rev {t sl : Addr} {items : Array Value} {vl vu vs : Value} {Q : Value → Shared → Prop} (ht : IsTup s.heap t items) (hs : s.heap.IsSliceOf sl vl vu vs) (pl : IsPart vl none) (pu : IsPart vu none) (ps : IsPart vs (some (-1)))
    (h : Q (.ref s.heap.objs.size) { s with heap := s.heap.push { cls := .type "tuple", data := .seq items.toList.reverse.toArray } })
    (hsz : items.size ≤ sizeLine) : wpAny (model prog w) A (getItem (.ref t) (.ref sl)) Q E s := by
  have htake : sizeOk (.seq items.toList.reverse.toArray) := by
    show items.toList.reverse.toArray.size ≤ sizeLine
    rw [List.size_toArray, List.length_reverse, Array.length_toList]
    exact hsz
  obtain ⟨os, hos, hcs, hds⟩ := id hs
  have hTs : s.TypeIs (.ref sl) "slice" := ⟨os, hos, hcs⟩
  unfold getItem
  try with_reducible refine wpAny_holding ?_
  first | refine wpAny_bind (wpAny_pure ?_) | skip
  refine wpAny_bind (wpAny_sequenceKey ht.typeIs (by decide) ?_)
  refine wpAny_bind (wpAny_callSpecial?_slot (name := Str.ofString "__getitem__") ht.typeIs PyProof.Rows.slot_tuple_getitem
    (wpAny_call_entry PyProof.Rows.slot_tuple_getitem ht.typeIs PyProof.Rows.entry_tuple_getitem ?_ (PyProof.Rows.args_tuple_getitem _ _)))
  show wpAny _ _ (Builtin.Tuple.tupleItemsOf (.ref t) >>= _) _ _ s
  refine wpAny_bind (PyProof.Rows.tupleItemsOf_ ht ?_)
  refine wpAny_bind (wpAny_typeOf hTs ?_)
  rw [if_pos (by decide)]
  refine wpAny_bind (sliceApplied_rev hs pl pu ps ?_)
  have hno : ¬ ((((items.size : Int) - 1) == 0 && (-1 : Int) == 1 && items.size == items.size) = true) := by
    intro q
    rw [Bool.and_eq_true, Bool.and_eq_true] at q
    exact absurd q.1.2 (by decide)
  show wpAny _ _ (if (((items.size : Int) - 1) == 0 && (-1 : Int) == 1 && items.size == items.size) = true then _ else _) _ _ s
  rw [if_neg hno, pick_rev]
  first
    | exact wpAny_bind (m := Builtin.Tuple.tupleExact _) (wpAny_newObj_type (wpAny_pure ⟨_, rfl, wpAny_pure h⟩) htake)
    | exact wpAny_bind (m := Builtin.Tuple.tupleExact _) (wpAny_newObj_type (wpAny_bind (wpAny_pure (wpAny_pure ⟨_, rfl, wpAny_pure h⟩))) htake)
    | exact wpAny_bind (wpAny_bind (m := Builtin.Tuple.tupleExact _) (wpAny_newObj_type (wpAny_pure (wpAny_pure ⟨_, rfl, wpAny_pure h⟩)) htake))
    | exact wpAny_bind (wpAny_bind (m := Builtin.Tuple.tupleExact _) (wpAny_newObj_type (wpAny_pure ⟨_, rfl, wpAny_pure h⟩) htake))
end
def tRevT (K : PySem.W.Frag) (te : TE) : TE := fun σ H Q => te σ H fun x H1 => ∃ a xs, x = .ref a ∧ SqT K H1 a xs ∧ ∀ p, H1 p = none → Q (.ref p) (upd H1 p (.tup xs.reverse))
theorem pe_revT {X : Cx} {e : Expr} {te : TE} {k : Nat} {p1 p2 p3 pos : Pos} (he : PE X e te) : PE X (.Subscript e (.Slice none none (some (.UnaryOp .USub (.Constant (.int 1) k p1) p2)) p3) pos) (tRevT X.K te) := by
  refine ⟨fun pins s σ H Q I h => ?_⟩
  refine Subscript_ (thn (he.run pins s σ H _ I h) fun v s1 ⟨x, H1, I1, r1, q1⟩ => ?_)
  obtain ⟨a, xs, ex, hx, q⟩ := q1
  subst ex
  cases r1
  have hst : PO X (some (.UnaryOp .USub (.Constant (.int 1) k p1) p2)) (tPart (tUn (rU fun i => .int (-i)) (tC (.int 1)))) := po_some (pe_un un_neg pe_int)
  refine wpAny_Slice (thn (po_none.run pins s1 σ H1 (fun o H2 => o = none ∧ H2 = H1) I1 ⟨rfl, rfl⟩) fun vl s2 ⟨l, H2, I2, pl, el, e2⟩ => ?_)
  subst el e2
  refine thn (po_none.run pins s2 σ H2 (fun o H3 => o = none ∧ H3 = H2) I2 ⟨rfl, rfl⟩) fun vu s3 ⟨u, H3, I3, pu, eu, e3⟩ => ?_
  subst eu e3
  refine thn (hst.run pins s3 σ H3 (fun o H4 => o = some (-1) ∧ H4 = H3) I3 ⟨1, rfl, -1, rfl, rfl, rfl⟩) fun vs s4 ⟨o, H4, I4, ps, eo, e4⟩ => ?_
  subst eo e4
  have I5 : Inv X pins σ H4 { s4 with heap := s4.heap.push { cls := .type "slice", data := .fields #[vl, vu, vs] } } := I4.kept (t' := s4.toks) fun b ob q => Heap.get?_push_of_some _ q
  obtain ⟨its, r, ht, hz⟩ := I5.tuple hx
  have hlen := r.length
  show wpAny (model X.prog X.w) X.A (subscriptTail e (.Slice none none (some (.UnaryOp .USub (.Constant (.int 1) k p1) p2)) p3) (.ref a) (.ref s4.heap.objs.size)) (EP X pins σ Q) X.xe { s4 with heap := s4.heap.push { cls := .type "slice", data := .fields #[vl, vu, vs] } }
  refine tail_any (ops := [.ref a, .ref s4.heap.objs.size]) ht.typeIs (PyProof.Rows.slot_tuple_getitem.lookup) ?_ (by with_unfolding_all rfl)
  refine getItem_tuple_rev ht (Heap.IsSliceOf.new _ vl vu vs) pl pu ps ?_ (by rw [List.size_toArray]; omega)
  refine ⟨.ref _, _, I5.laid (t' := s4.toks) (o := .tup xs.reverse) (fun b ob q => Heap.get?_push_of_some _ q) (Nat.le_refl _) ?_, rfl, q _ (I5.hok.fresh (Nat.le_refl _))⟩
  exact ⟨by rw [List.length_reverse]; exact hz, _, r.reverse, IsTup.new _ _⟩
def revTD : D → Option D
  | .tuple ds => some (.tuple ds.reverse)
  | _ => none
theorem dx_revT {X : Cx} {G : Sg} {W : WX} {e : Expr} {f : Env → Res D} {k : Nat} {p1 p2 p3 pos : Pos} (hB : G.B.2.2 = X.K) (h : DX X G W .fz e f) : DX X G W .fz (.Subscript e (.Slice none none (some (.UnaryOp .USub (.Constant (.int 1) k p1) p2)) p3) pos) (eR1 revTD f) :=
  PE.imp (pe_revT h) fun σ H Q ⟨F, ρ, E, g⟩ => tX_bind E g fun v d ρ1 H1 F1 E1 r g1 _ => by
    cases d with
    | tuple ds =>
      cases r with
      | tup rd nw l q =>
        refine ⟨_, _, rfl, .inl rd, fun p hp => ?_⟩
        refine VOut.tup (B := G.B) (W := Wof F1 G.O) (ds := ds.reverse) (fun v H' Fl k hn nd o => ?_) hp q.reverse (by rw [List.length_reverse]; exact l) (there_W E1)
        obtain ⟨h3, o'⟩ := Go.fin g1 E1 k hn nd o
        exact h3 v o'
    | _ => exact g1.elim

/-! ### sorted(a tuple) -/
section
variable {prog : Program} {w : World} {A : Around} {E : Value → Shared → Prop} {s : Shared}
theorem collect_tup {l : Addr} {vs : List Value} {Q : List Value → Shared → Prop} (hl : IsTup s.heap l vs.toArray)
    (h : Q vs { s with heap := (s.heap.push (seqObj "list" #[] 0)).update s.heap.objs.size (Obj.mapSeq (· ++ vs.toArray)) }) (hsz : vs.length ≤ sizeLine) :
    wpAny (model prog w) A (collect (.ref l)) Q E s := by
  obtain ⟨o, ho, hc, n, hd⟩ := id hl
  unfold collect
  refine wpAny_bind (wpAny_runValue (codeAny_builtin PySem.F.entry_proto_collect ?_))
  rw [Around.under_plainId PySem.F.plain_proto_collect _]
  show wpAny _ _ (do again (.builtin "list.__iadd__" ⟨[← newList [], .ref l], []⟩)) _ _ s
  refine wpAny_bind (wpAny_newList (wpAny_pure ⟨Code.quiet_builtin _ (by decide +kernel), codeAny_builtin PySem.F.entry_list_iadd ?_⟩))
  show wpAny _ _ (Builtin.List.listExtendWith (.ref s.heap.objs.size) (.ref l) (.ref s.heap.objs.size)) _ _ { s with heap := s.heap.push (seqObj "list" #[] 0) }
  unfold Builtin.List.listExtendWith
  have ho' : (s.heap.push (seqObj "list" #[] 0)).get? l = some o := Heap.get?_push_of_some _ ho
  refine wpAny_bind (wpAny_typeOf (T := "tuple") ⟨o, ho', hc⟩ ?_)
  have ht : (Value.type "tuple" == Value.type "tuple") = true := by rfl
  rw [if_pos (by rw [ht]; simp)]
  refine wpAny_bind (listItems_at ho' hd ?_)
  refine wpAny_bind (listItems_at (xs := #[]) (n := 0) (Heap.get?_push_size _ rfl) rfl ?_)
  rw [if_neg (by simp)]
  refine wpAny_bind (listUpdate_at (xs := #[]) (n := 0) (Heap.get?_push_size _ rfl) rfl ?_ (Nat.zero_le _) (by show (#[] ++ vs.toArray).size ≤ sizeLine + 1; simp only [Array.size_append, List.size_toArray, List.length_nil]; omega))
  refine wpAny_pure ?_
  show wpAny (model prog w) A (do
      let o ← load s.heap.objs.size
      match o.data with
      | .seq xs _ => pure xs.toList
      | _ => unsupported "internal:collect") Q E { s with heap := (s.heap.push (seqObj "list" #[] 0)).update s.heap.objs.size (Obj.mapSeq (· ++ vs.toArray)) }
  refine wpAny_bind (wpAny_load (get?_update_seq (Heap.get?_push_size _ rfl) _) ?_)
  show wpAny _ _ (pure ((#[] : Array Value) ++ vs.toArray).toList) Q E _
  rw [show ((#[] : Array Value) ++ vs.toArray).toList = vs by simp]
  exact wpAny_pure h
theorem sorted_valsT {κ : PyProof.Rows.KeyKind} {l : Addr} {vs : List Value} {Q : Value → Shared → Prop} (hl : IsTup s.heap l vs.toArray) (S : SortsAt prog w A.in1.in1 { s with heap := sortingHeap (copyHeap s.heap vs) (s.heap.objs.size + 1) vs } κ vs) (hL : vs.length ≤ sizeLine)
    (h : Q (.ref (s.heap.objs.size + 1)) { s with heap := sortedAll s.heap vs (sortVals κ false vs vs).toArray }) : wpAny (model prog w) A (call (.builtin "sorted") [.ref l]) Q E s := by
  refine call_function_entry_kw kind_sorted plain_sorted entry_sorted (args_sorted1 _) ?_
  unfold Builtin.«sorted»
  refine wpAny_bind (m := checkCount "sorted" 1 1 _) (wpAny_pure ?_)
  refine wpAny_bind (collect_tup hl ?_ hL)
  refine wpAny_bind (wpAny_newList ?_ hL)
  have hsz : ((s.heap.push (seqObj "list" #[] 0)).update s.heap.objs.size (Obj.mapSeq (· ++ vs.toArray))).objs.size = s.heap.objs.size + 1 := by
    rw [Heap.size_update, size_push']
  show wpAny _ _ _ _ _ { s with heap := copyHeap s.heap vs }
  rw [hsz]
  refine wpAny_bind (wpAny_holding (wpAny_call_entry_kw slot_list_sort ⟨_, copyHeap_at s.heap vs, rfl⟩ entry_list_sort ?body (args_list_sort _)))
  case body =>
    show wpAny (model prog w) A.in1.in1 (Builtin.«list.sort» ⟨[.ref (s.heap.objs.size + 1)], []⟩) _ _ _
    exact wpAny_mono (list_sort_vals (s := { s with heap := copyHeap s.heap vs }) (P := fun f s' => f = .done (.ret .none) ∧ Q (.ref (s.heap.objs.size + 1)) s') (copyHeap_at s.heap vs) S hL ⟨rfl, h⟩) (fun f s' hf => by
      obtain ⟨rfl, hq⟩ := hf
      exact ⟨_, rfl, wpAny_pure ⟨_, rfl, hq⟩⟩) fun _ _ e => e
end
def rSortDT (B : Bs) : List V → Hp → VK → Prop := fun xs H Q => ∃ (a : Addr) (ys : List V) (ds : List D) (W : Wr), xs = [.ref a] ∧ SqT B.2.2 H a ys ∧ RpAll B H W ys ds ∧ sortOk ds = true ∧ ∀ zs p, RpAll B H W zs (ds.mergeSort dleD) → H p = none → Q (.ref p) (upd H p (.lst zs))
def sortTD : List D → Option D
  | [.tuple ds] => if sortOk ds = true then some (.list (ds.mergeSort dleD)) else none
  | _ => none
theorem cr_sortDT {X : Cx} (hu : X.A.units + 70 < cLine) : CallR X (.builtin "sorted") (rSortDT (BOf X)) := by
  intro pins s σ H vs us Q I r h
  obtain ⟨a, ys, ds, W, rfl, hs, rp, ok, q⟩ := h
  rw [Vals.ref1 r]
  obtain ⟨its, rv, hl, hz⟩ := I.tuple (show SqT X.K H a ys from hs)
  have ok' := ok
  unfold sortOk at ok'
  simp only [Bool.and_eq_true, List.all_eq_true, Bool.or_eq_true] at ok'
  obtain ⟨⟨shp, alk⟩, ht⟩ := ok'
  have lay : ∀ d ∈ ds, d.canLay0 = true := fun d hd => SeqAt.canLay_of_shaped (shp d hd)
  have dpt : ∀ d ∈ ds, d.depth ≤ 64 := fun d hd => of_decide_eq_true (Bool.and_eq_true_iff.mp (shp d hd)).2
  -- the values read as the data, in any heap that keeps all that stands
  have reads : ∀ h' : Heap, (∀ b o, s.heap.get? b = some o → h'.get? b = some o) → PySem.W.EachIs (fun v d => ∃ as, Reads h' v d as) its ds := by
    intro h' kh
    have go : ∀ {ys : List V} {ds : List D} {us : List Value}, (∀ d ∈ ds, d.canLay0 = true) → RpAll (BOf X) H W ys ds → Vals ys us → PySem.W.EachIs (fun v d => ∃ as, Reads h' v d as) us ds := by
      intro ys ds us hl
      induction ds generalizing ys us with
      | nil => intro h r; cases h; cases r; exact .nil
      | cons d ds ih =>
        intro h r
        cases h with
        | cons a b =>
          cases r with
          | cons r1 r2 =>
            obtain ⟨as, e⟩ := Dp.reads I d _ _ (Rp.dp d (hl d List.mem_cons_self) a) r1
            exact .cons ⟨as, Reads.keeps kh e⟩ (ih (fun d hd => hl d (List.mem_cons_of_mem _ hd)) b r2)
    exact go lay rp rv
  have k1 : ∀ b o, s.heap.get? b = some o → (PySem.W.sortingHeap (PySem.W.copyHeap s.heap its) (s.heap.objs.size + 1) its).get? b = some o := fun b o e =>
    PySem.W.sortingHeap_old (Nat.ne_of_lt (Nat.lt_succ_of_lt (Heap.lt_size e))) (PySem.W.copyHeap_old e)
  have E1 := reads _ k1
  have S : PySem.W.SortsAt X.prog X.w X.A.in1.in1 { s with heap := PySem.W.sortingHeap (PySem.W.copyHeap s.heap its) (s.heap.objs.size + 1) its } (PySem.W.dataKind (PySem.W.sortingHeap (PySem.W.copyHeap s.heap its) (s.heap.objs.size + 1) its) ds) its := by
    refine PySem.W.SortsAt.data E1 (fun d hd d' hd' => alk d hd d' hd') ?_ fun d hd => ?_
    · rcases ht with ht | ht
      · left
        intro d hd
        have := ht d hd
        cases d with
        | tuple xs =>
          cases xs with
          | nil => cases this
          | cons x r => exact ⟨x, r, rfl⟩
        | _ => cases this
      · right
        intro d hd
        have := ht d hd
        refine ⟨fun e => ?_, fun xs e => ?_⟩
        · subst e; cases this
        · subst e; cases this
    · have := dpt d hd
      simp only [Around.in1_units]
      omega
  have hl2 := rv.length
  refine sorted_valsT hl S (by omega) ?_
  -- the pairs, sorted
  have ep := PySem.W.sortVals_each (κ := PySem.W.dataKind (PySem.W.sortingHeap (PySem.W.copyHeap s.heap its) (s.heap.objs.size + 1) its) ds) (rev := false) (R := fun u (p : V × D) => RelV p.1 u) (ks := its) (vs := its) (bs := ys.zip ds) (fun p => PySem.W.keyToks p.2) (each_of rp rv) ?_
  · generalize hP : (ys.zip ds).mergeSort _ = ps at ep
    have hperm : ps.Perm (ys.zip ds) := by rw [← hP]; exact List.mergeSort_perm _ _
    have rp2 : RpAll (BOf X) H W (ps.map (·.1)) (ps.map (·.2)) := rp_of_pairs fun p hp => zip_rp rp p (hperm.mem_iff.mp hp)
    have e2 : ps.map (·.2) = ds.mergeSort dleD := by
      rw [← hP]
      have := PySem.W.sort_maps (fun p : V × D => p.2) (r := PySem.W.sortLe (PySem.W.dataKind (PySem.W.sortingHeap (PySem.W.copyHeap s.heap its) (s.heap.objs.size + 1) its) ds).toKeyOrd false fun p : V × D => PySem.W.keyToks p.2) (s := dleD) (l := ys.zip ds) (fun a _ b _ => rfl)
      rw [this, zip_snd rp]
    rw [e2] at rp2
    have vals := EachIs.paired ep fun u p h => h
    generalize PySem.W.sortVals _ _ _ _ = outs at vals ep
    obtain ⟨n, at_⟩ := PyProof.Rows.sortedAll_at s.heap its outs.toArray
    have hlen : (ps.map (·.1)).length ≤ sizeLine := by
      rw [List.length_map, hperm.length_eq, List.length_zip]
      omega
    exact ⟨.ref _, upd H (s.heap.objs.size + 1) (.lst (ps.map (·.1))), I.laid (t' := s.toks) (fun _ _ => PyProof.Rows.sortedAll_old) (Nat.le_succ _) ⟨hlen, outs, n, vals, at_⟩, rfl, q _ _ rp2 (I.hok.fresh (Nat.le_succ _))⟩
  · have go : ∀ {us : List Value} {ys : List V} {es : List D}, (∀ d ∈ es, d ∈ ds) → ys.length = es.length → PySem.W.EachIs (fun v d => ∃ as, Reads (PySem.W.sortingHeap (PySem.W.copyHeap s.heap its) (s.heap.objs.size + 1) its) v d as) us es →
        PySem.W.EachIs (fun v (b : V × D) => (PySem.W.dataKind (PySem.W.sortingHeap (PySem.W.copyHeap s.heap its) (s.heap.objs.size + 1) its) ds).keyOf v = some (PySem.W.keyToks b.2)) us (ys.zip es) := by
      intro us ys es hm hl e
      induction e generalizing ys with
      | nil => simpa using .nil
      | cons x _ ih =>
        cases ys with
        | nil => simp at hl
        | cons y ys =>
          obtain ⟨as, x⟩ := x
          rw [List.zip_cons_cons]
          exact .cons (PySem.W.dataKind_some (fun d hd d' hd' => alk d hd d' hd') (hm _ List.mem_cons_self) x) (ih (fun d hd => hm d (List.mem_cons_of_mem _ hd)) (by simpa using hl))
    exact go (fun d hd => hd) rp.length E1
theorem pv_sortT {B : Bs} : PVn B (rSortDT B) (.lst .fz) sortTD := by
  intro xs ds H W Q z hx hz hW k
  unfold sortTD at hz
  split at hz
  · split at hz
    · rename_i es ok
      cases hz
      obtain ⟨v, rfl, h⟩ := rqAll1 hx
      obtain ⟨a, ys, rfl, ra, na, la, qa⟩ := rq_tup h
      exact ⟨a, ys, es, W, rfl, .inl ra, qa, ok, fun zs p r hp => k.lst hp r (by rw [List.length_mergeSort]; exact la)⟩
    · cases hz
  · cases hz
/-- sorted of a list or a tuple -/
def rSortA (B : Bs) : List V → Hp → VK → Prop := fun xs H Q => rSortD B xs H Q ∨ rSortDT B xs H Q
theorem cr_sortA {X : Cx} (hu : X.A.units + 70 < cLine) : CallR X (.builtin "sorted") (rSortA (BOf X)) := (cr_sortD hu).or (cr_sortDT hu)
def sortAD : List D → Option D
  | [.list ds] => sortD [.list ds]
  | [.tuple ds] => sortTD [.tuple ds]
  | _ => none
theorem pv_sortA {B : Bs} : PVn B (rSortA B) (.lst .fz) sortAD := by
  intro xs ds H W Q z hx hz hW k
  unfold sortAD at hz
  split at hz
  · exact .inl (pv_sort _ _ H W Q z hx hz hW k)
  · exact .inr (pv_sortT _ _ H W Q z hx hz hW k)
  · cases hz
end PD

set_option Elab.async false
set_option linter.all false
set_option maxRecDepth 100000
set_option maxHeartbeats 4000000
/-! PDsa: sets whose members are tuples (any nested keys): questions, the search, adding. -/
namespace PD
open PySem PySem.Spec PyProof.Rows L2

section
variable {P : Program} {w : World} {s : Shared}
/-- asked whether it is of a class statement: no -/
def NoCls (P : Program) (w : World) (n : Nat) (s : Shared) (v : Value) : Prop := ∀ (A : Around) (E : Value → Shared → Prop) (Q : Bool → Shared → Prop), Q false s → wpAny (model P w) A (ofAClassStatement n v) Q E s
/-- asked whether its hash is told by its value: some answer -/
def AnyVal (P : Program) (w : World) (n : Nat) (s : Shared) (v : Value) : Prop := ∀ (A : Around) (E : Value → Shared → Prop) (Q : Bool → Shared → Prop), (∀ b, Q b s) → wpAny (model P w) A (hashByValue n v) Q E s
theorem NoCls.tup {n m : Nat} {a : Addr} {o : Obj} {vs : Array Value} (ho : s.heap.get? a = some o) (hc : o.cls = .type "tuple") (hd : o.data = .seq vs m) (hv : ∀ v ∈ vs.toList, NoCls P w n s v) : NoCls P w (n + 1) s (.ref a) := by
  intro A E Q q
  have e : (("tuple" : String) == "tuple") = true := by decide
  unfold ofAClassStatement
  refine wpAny_bind (wpAny_typeOf (T := "tuple") ⟨o, ho, hc⟩ ?_)
  dsimp only
  simp only [e, if_true, Bool.not_true, Bool.false_eq_true, if_false]
  try refine wpAny_bind (wpAny_pure ?_)
  try simp only [Bool.not_true, Bool.false_eq_true, if_false]
  show wpAny _ _ (seqItems? (.ref a) >>= _) _ _ s
  refine wpAny_bind (wpAny_seqItems ho hd ?_)
  dsimp only
  refine wpAny_bind ?_
  show wpAny _ _ (forIn vs _ _) _ _ s
  rw [← Array.forIn_toList]
  refine wpAny_forIn_list _ (fun rest r s' => r.1 = none ∧ s' = s ∧ ∀ v ∈ rest, NoCls P w n s v) _ ?_ ?_ _ _ ⟨rfl, rfl, hv⟩
  · rintro v rest r s' ⟨hr, rfl, all⟩
    refine wpAny_bind (all v List.mem_cons_self A _ _ ?_)
    simp only [Bool.false_eq_true, if_false]
    exact wpAny_pure ⟨rfl, rfl, fun u hu => all u (List.mem_cons_of_mem _ hu)⟩
  · rintro ⟨r1, r2⟩ s' ⟨hr, rfl, _⟩
    simp only at hr
    subst hr
    exact wpAny_pure q
theorem AnyVal.tup {n m : Nat} {a : Addr} {o : Obj} {vs : Array Value} (ho : s.heap.get? a = some o) (hc : o.cls = .type "tuple") (hd : o.data = .seq vs m) (hv : ∀ v ∈ vs.toList, AnyVal P w n s v) : AnyVal P w (n + 1) s (.ref a) := by
  intro A E Q q
  have hT : s.TypeIs (.ref a) "tuple" := ⟨o, ho, hc⟩
  unfold hashByValue
  refine wpAny_bind (wpAny_specialOf hT F.slot_tuple_hash.lookup ?_)
  show wpAny _ _ (seqItems? (.ref a) >>= _) _ _ s
  refine wpAny_bind (wpAny_seqItems ho hd ?_)
  refine wpAny_bind ?_
  show wpAny _ _ (forIn vs _ _) _ _ s
  rw [← Array.forIn_toList]
  refine wpAny_forIn_list _ (fun rest r s' => s' = s ∧ ∀ v ∈ rest, AnyVal P w n s v) _ ?_ ?_ _ _ ⟨rfl, hv⟩
  · rintro v rest r s' ⟨rfl, all⟩
    refine wpAny_bind (all v List.mem_cons_self A _ _ fun b => ?_)
    cases b
    · simp only [Bool.not_false, if_true]
      exact wpAny_pure (wpAny_pure (q false))
    · simp only [Bool.not_true, Bool.false_eq_true, if_false]
      exact wpAny_pure ⟨rfl, fun u hu => all u (List.mem_cons_of_mem _ hu)⟩
  · rintro ⟨r1, r2⟩ s' ⟨rfl, _⟩
    cases r1 with
    | none => exact wpAny_pure (q true)
    | some b => exact wpAny_pure (q b)
mutual
theorem noCls_key : ∀ (k : NestedKey) (v : Value) (n : Nat) (s : Shared), NestedIs s.heap k v → k.depth ≤ n → NoCls P w n s v
  | .none, _, n, s, x, _ => by
    cases x
    intro A E Q q
    rw [show ofAClassStatement n .none = pure false by cases n <;> rfl]
    exact wpAny_pure q
  | .num i, _, n, s, x, _ => by
    cases x with
    | bool e =>
      intro A E Q q
      rename_i b
      rw [show ofAClassStatement n (.bool b) = pure false by cases n <;> rfl]
      exact wpAny_pure q
    | int _ t =>
      intro A E Q q
      rw [show ofAClassStatement n (.int i t) = pure false by cases n <;> rfl]
      exact wpAny_pure q
  | .text y, _, n, s, x, _ => by
    cases x with
    | text _ t =>
      intro A E Q q
      rw [show ofAClassStatement n (.str y t) = pure false by cases n <;> rfl]
      exact wpAny_pure q
  | .tup ks, _, n, s, x, hn => by
    cases x with
    | tup h1 h2 h3 h4 =>
      cases n with
      | zero => simp [NestedKey.depth] at hn
      | succ n => exact .tup h1 h2 h3 (noCls_keys ks _ n s h4 (by simp only [NestedKey.depth] at hn; omega))
theorem noCls_keys : ∀ (ks : List NestedKey) (vs : List Value) (n : Nat) (s : Shared), NestedAll s.heap ks vs → NestedKey.depthAll ks ≤ n → ∀ v ∈ vs, NoCls P w n s v
  | [], _, n, s, x, _ => by cases x; intro v hv; cases hv
  | k :: ks, _, n, s, x, hn => by
    cases x with
    | cons x1 x2 =>
      simp only [NestedKey.depthAll] at hn
      intro v hv
      rcases List.mem_cons.mp hv with e | hv
      · rw [e]; exact noCls_key k _ n s x1 (by omega)
      · exact noCls_keys ks _ n s x2 (by omega) v hv
end
theorem AnyVal.flat {n : Nat} {v : Value} {b : Bool} (h : hashByValue n v = pure b) : AnyVal P w n s v := fun A E Q q => by rw [h]; exact wpAny_pure (q b)
mutual
theorem anyVal_key : ∀ (k : NestedKey) (v : Value) (n : Nat) (s : Shared), NestedIs s.heap k v → k.depth ≤ n → AnyVal P w n s v
  | .none, _, n, s, x, _ => by
    cases x
    exact .flat (b := true) (by cases n <;> rfl)
  | .num i, _, n, s, x, _ => by
    cases x with
    | bool e => exact .flat (b := true) (by cases n <;> rfl)
    | int _ t => exact .flat (b := true) (by cases n <;> rfl)
  | .text y, _, n, s, x, _ => by
    cases x with
    | text _ t => exact .flat (b := false) (by cases n <;> rfl)
  | .tup ks, _, n, s, x, hn => by
    cases x with
    | tup h1 h2 h3 h4 =>
      cases n with
      | zero => simp [NestedKey.depth] at hn
      | succ n => exact .tup h1 h2 h3 (anyVal_keys ks _ n s h4 (by simp only [NestedKey.depth] at hn; omega))
theorem anyVal_keys : ∀ (ks : List NestedKey) (vs : List Value) (n : Nat) (s : Shared), NestedAll s.heap ks vs → NestedKey.depthAll ks ≤ n → ∀ v ∈ vs, AnyVal P w n s v
  | [], _, n, s, x, _ => by cases x; intro v hv; cases hv
  | k :: ks, _, n, s, x, hn => by
    cases x with
    | cons x1 x2 =>
      simp only [NestedKey.depthAll] at hn
      intro v hv
      rcases List.mem_cons.mp hv with e | hv
      · rw [e]; exact anyVal_key k _ n s x1 (by omega)
      · exact anyVal_keys ks _ n s x2 (by omega) v hv
end
end
end PD

set_option Elab.async false
set_option linter.all false
set_option maxRecDepth 100000
set_option maxHeartbeats 4000000
/-! PDsb: sets whose members are tuples (any nested keys): the table, the search, adding. -/
namespace PD
open PySem PySem.Spec PyProof.Rows L2

abbrev KeyAt (P : Program) (w : World) (h : Heap) (k : NestedKey) (a : Addr) : Prop := (nestedKind P w).is h k a
/-- the members of a set, by address and key, as its rows -/
def rowsN (w : World) (L : List (Addr × NestedKey)) : List (Int × Value) := L.map fun p => (p.2.hash w, Value.ref p.1)
structure SetN (P : Program) (w : World) (h : Heap) (a : Addr) (L : List (Addr × NestedKey)) (es : Array (Int × Value)) (ep : Nat) (t : SetTable) : Prop where
  ob : ∃ o, h.get? a = some o ∧ o.ExactSet ∧ o.data = .set es ep t
  rows : es.toList = rowsN w L
  tab : TabOk t (L.map fun p => p.2.hash w)
  nd : (L.map (·.2)).Nodup
  key : ∀ p ∈ L, KeyAt P w h p.2 p.1
  led : w.params.followText "set-order" = true ∨ t.led = true
  room : L.length * 5 < t.mask * 3
  few : L.length < 64
section
variable {P : Program} {w : World} {A : Around} {E : Value → Shared → Prop} {s : Shared} {a : Addr} {L : List (Addr × NestedKey)} {es : Array (Int × Value)} {ep : Nat} {t : SetTable}
theorem rowsN_size (h : es.toList = rowsN w L) : es.size = L.length := by
  have := congrArg List.length h
  rwa [Array.length_toList, rowsN, List.length_map] at this
theorem rowsN_at (h : es.toList = rowsN w L) {i : Nat} {p : Addr × NestedKey} (e : L[i]? = some p) : es[i]? = some (p.2.hash w, Value.ref p.1) := by
  rw [← Array.getElem?_toList, h, rowsN, List.getElem?_map, e]
  rfl
theorem tab_fits {n : Nat} (T : TabOk t (L.map fun p => p.2.hash w)) (hn : n = L.length) (hr : L.length ≤ t.mask) : t.fits n = true := by
  have h1 := T.sz
  rw [List.length_map] at h1
  unfold SetTable.fits SetTable.fill
  rw [T.dm, Bool.and_eq_true, beq_iff_eq, decide_eq_true_eq]
  show t.place.size = n ∧ t.place.size + 0 ≤ t.mask
  omega
theorem SetN.fits (R : SetN P w s.heap a L es ep t) : t.fits es.size = true := tab_fits R.tab (rowsN_size R.rows) (by have := R.room; omega)
theorem even_no {t : SetTable} (h : MaskOk t.mask) : ¬ t.gaveWay = true := by
  unfold SetTable.gaveWay
  rw [mask_odd h]
  decide
/-- the probe at a step of a key's way -/
abbrev stp (m : Nat) (h : Int) (c : Nat) : SetTable.Probe := nth m (runAt m (SetTable.bits h % (m + 1)) (SetTable.bits h)) c
theorem nth_clean (m : Nat) : ∀ (n : Nat) (p : SetTable.Probe), p.dummy = none → (nth m p n).dummy = none
  | 0, _, h => h
  | n + 1, p, h => nth_clean m n (adv m p) (by unfold adv; split <;> exact h)
theorem stp_clean (m : Nat) (h : Int) (c : Nat) : (stp m h c).dummy = none := nth_clean m c _ rfl
theorem stp_on (m : Nat) (h : Int) (c q : Nat) : nth m (stp m h c) q = stp m h (c + q) := (nth_add m c _ q).symm
theorem stp_j (m : Nat) (h : Int) (c q : Nat) : (nth m (stp m h c) q).j = way m h (c + q) := congrArg SetTable.Probe.j (stp_on m h c q)
/-- a search whose members are keys shows nothing -/
theorem unseen_key {k : NestedKey} {b : Addr} {Q : Bool → Shared → Prop} (hk : KeyAt P w s.heap k b) {ys : List Value} (hy : ∀ y ∈ ys, ∃ k' c, y = Value.ref c ∧ KeyAt P w s.heap k' c) (h : Q false s) :
    wpAny (model P w) A (searchCouldBeSeen (.ref b) ys) Q E s := by
  unfold searchCouldBeSeen
  refine wpAny_bind ?_
  refine wpAny_forIn_list _ (fun rest r s' => r.1 = none ∧ s' = s ∧ ∀ y ∈ rest, ∃ k' c, y = Value.ref c ∧ KeyAt P w s.heap k' c) _ ?_ ?_ _ _ ⟨rfl, rfl, hy⟩
  · rintro v rest r s' ⟨hr, rfl, all⟩
    obtain ⟨k', c, rfl, hc⟩ := all v List.mem_cons_self
    have more : ∀ y ∈ rest, ∃ k' c, y = Value.ref c ∧ KeyAt P w s'.heap k' c := fun u hu => all u (List.mem_cons_of_mem _ hu)
    dsimp only
    by_cases hv : (b == c || (carriedByValue (.ref b) && carriedByValue (.ref c))) = true
    · exact wp_if_pos hv (wpAny_pure ⟨rfl, rfl, more⟩)
    · refine wp_if_neg hv (wpAny_bind ((nestedKind P w).quiet hk ?_))
      simp only [Bool.not_true, Bool.false_eq_true, if_false]
      refine wpAny_bind ((nestedKind P w).quiet hc ?_)
      simp only [Bool.not_true, Bool.false_eq_true, if_false]
      refine wpAny_bind (noCls_key _ _ _ _ hk.1 hk.2 A E _ ?_)
      simp only [Bool.false_eq_true, if_false]
      refine wpAny_bind (noCls_key _ _ _ _ hc.1 hc.2 A E _ ?_)
      simp only [Bool.false_eq_true, if_false]
      exact wpAny_pure ⟨rfl, rfl, more⟩
  · rintro ⟨r1, r2⟩ s' ⟨hr, rfl, _⟩
    simp only at hr
    subst hr
    exact wpAny_pure h
/-- what a search finds -/
structure Finds (w : World) (L : List (Addr × NestedKey)) (t : SetTable) (k : NestedKey) (Q : SetFound → Shared → Prop) (s : Shared) (K : Nat) : Prop where
  lt : K < 10 * SetTable.turns t.mask
  free : way t.mask (k.hash w) K ∉ t.place.toList
  taken : ∀ c, c < K → way t.mask (k.hash w) c ∈ t.place.toList
  inn : k ∈ L.map (·.2) → Q (.there none) s
  out : k ∉ L.map (·.2) → Q (.free (way t.mask (k.hash w) K) false) s
theorem searchN_from (R : SetN P w s.heap a L es ep t) {x : Addr} {k : NestedKey} (hx : KeyAt P w s.heap k x) (hu : A.units + 8 < cLine) {K : Nat} {Q : SetFound → Shared → Prop} (D : Finds w L t k Q s K) :
    ∀ (f c : Nat) (stand : Option SetTable.Probe), stand.getD (t.probeStart (k.hash w)) = stp t.mask (k.hash w) c → c ≤ K → K - c < f →
      (∀ (i : Nat) p, L[i]? = some p → p.2 = k → ∃ c', c ≤ c' ∧ c' < K ∧ t.place.toList[i]? = some (way t.mask (k.hash w) c')) →
      wpAny (model P w) A (setSearchFrom a (.ref x) (k.hash w) true f stand) Q E s
  | 0, c, stand, _, _, hf, _ => absurd hf (Nat.not_lt_zero _)
  | f + 1, c, stand, hst, hc, hf, left => by
    obtain ⟨o, ho, hex, hd⟩ := R.ob
    rw [setSearchFrom_succ]
    refine wpAny_bind (wpAny_setState_of ho hd R.fits ?_)
    dsimp only
    refine wp_if_neg (even_no R.tab.mok) ?_
    try refine wpAny_bind (wpAny_pure ?_)
    have spec := go_spec t R.tab.ris R.tab.dm (fun i => (es[i]?.map (·.1)).getD 0) (k.hash w) (10 * SetTable.turns t.mask) (K - c) (stp t.mask (k.hash w) c) (stp_clean _ _ _) (by have := D.lt; omega)
      (fun q hq => by rw [stp_j]; exact D.taken (c + q) (by omega)) (by rw [stp_j, show c + (K - c) = K by omega]; exact D.free)
    have hashAt : ∀ (i : Nat) p, L[i]? = some p → (fun i => (es[i]?.map (·.1)).getD 0) i = p.2.hash w := fun i p hp => by
      show (es[i]?.map (·.1)).getD 0 = _
      rw [rowsN_at R.rows hp] <;> rfl
    rcases spec with ⟨q, i, hq, hi, hh, hno, hpr⟩ | ⟨hno, hpr⟩
    · have hpr' : t.probe (fun i => (es[i]?.map (·.1)).getD 0) (k.hash w) (stand.getD (t.probeStart (k.hash w))) = some (.candidate (way t.mask (k.hash w) (c + q)) i (stp t.mask (k.hash w) (c + (q + 1)))) := by
        rw [hst, ← stp_j, ← stp_on]
        exact hpr
      rw [hpr']
      dsimp only
      rw [stp_j] at hi
      have hil : i < L.length := by
        have h1 : i < t.place.toList.length := (List.getElem?_eq_some_iff.mp hi).1
        have h2 := R.tab.sz
        rw [List.length_map] at h2
        rw [Array.length_toList] at h1
        omega
      have hp : L[i]? = some L[i] := List.getElem?_eq_getElem hil
      generalize hpe : L[i] = p at hp
      have hmem : p ∈ L := List.mem_of_getElem? hp
      have rest : wpAny (model P w) A (searchRest a (.ref x) (k.hash w) true f es t (way t.mask (k.hash w) (c + q)) i (stp t.mask (k.hash w) (c + (q + 1)))) Q E s := by
        unfold searchRest
        rw [rowsN_at R.rows hp]
        dsimp only
        refine wpAny_bind (wpAny_holding ((nestedKind P w).eqBool hu (R.key p hmem) hx ?_))
        refine wpAny_bind (wpAny_setState_of ho hd R.fits ?_)
        dsimp only
        by_cases hkk : p.2 = k
        · refine wp_if_pos (by simp [hkk]) (wpAny_pure (D.inn ?_))
          exact List.mem_map.mpr ⟨p, hmem, hkk⟩
        · refine wp_if_neg (by simp [hkk]) ?_
          try refine wpAny_bind (wpAny_pure ?_)
          rw [sameMem]
          dsimp only
          have hsl : t.slot (way t.mask (k.hash w) (c + q)) = .live i := slot_live R.tab.ris hi
          simp only [if_true, hsl, rowsN_at R.rows hp]
          refine wpAny_bind (wpAny_isSame_ref_self (wpAny_bind (wpAny_pure ?_)))
          simp only [if_true]
          refine wp_if_neg (by simp [hkk]) ?_
          refine searchN_from R hx hu D f (c + (q + 1)) _ rfl (by omega) (by omega) fun i0 p0 h0 hk0 => ?_
          obtain ⟨c', a1, a2, a3⟩ := left i0 p0 h0 hk0
          refine ⟨c', ?_, a2, a3⟩
          have same : c' ≠ c + q := fun ec => by
            rw [ec] at a3
            have s0 := slot_live R.tab.ris a3
            rw [hsl] at s0
            injection s0 with s0
            rw [← s0, hp] at h0
            exact hkk ((congrArg Prod.snd (Option.some.inj h0)).trans hk0)
          refine Classical.byContradiction fun lt => ?_
          refine hno (c' - c) i0 (by omega) (by rw [stp_j, show c + (c' - c) = c' by omega]; exact a3) ?_
          exact (hashAt i0 p0 h0).trans (congrArg (NestedKey.hash w) hk0)
      by_cases hl : t.led = true
      · refine wp_if_neg (by simp [hl]) ?_
        try refine wpAny_bind (wpAny_pure ?_)
        exact rest
      · refine wp_if_pos (by simp [hl]) ?_
        refine wpAny_bind (unseen_key hx (fun y hy => ?_) ?_)
        · obtain ⟨e, he, ee⟩ := List.mem_map.mp hy
          have he2 : e ∈ es.toList := by
            have : e ∈ es ∧ e.1 = k.hash w := by simpa using he
            simpa using this.1
          rw [R.rows] at he2
          obtain ⟨p2, hp2, e2⟩ := List.mem_map.mp he2
          exact ⟨p2.2, p2.1, by rw [← ee, ← e2], R.key p2 hp2⟩
        · refine wp_if_neg (by decide) ?_
          try refine wpAny_bind (wpAny_pure ?_)
          exact rest
    · have hpr' : t.probe (fun i => (es[i]?.map (·.1)).getD 0) (k.hash w) (stand.getD (t.probeStart (k.hash w))) = some (.empty (way t.mask (k.hash w) K) none) := by
        have e2 : way t.mask (k.hash w) K = (nth t.mask (stp t.mask (k.hash w) c) (K - c)).j := by
          rw [stp_j, show c + (K - c) = K by omega]
        rw [hst, e2]
        exact hpr
      rw [hpr']
      dsimp only
      refine wpAny_pure (D.out fun hm => ?_)
      obtain ⟨p0, h0, hk0⟩ := List.mem_map.mp hm
      obtain ⟨i0, hi0⟩ := List.mem_iff_getElem?.mp h0
      obtain ⟨c', a1, a2, a3⟩ := left i0 p0 hi0 hk0
      refine hno (c' - c) i0 (by omega) (by rw [stp_j, show c + (c' - c) = c' by omega]; exact a3) ?_
      exact (hashAt i0 p0 hi0).trans (congrArg (NestedKey.hash w) hk0)
theorem searchN (R : SetN P w s.heap a L es ep t) {x : Addr} {k : NestedKey} (hx : KeyAt P w s.heap k x) (hu : A.units + 8 < cLine) {Q : SetFound → Shared → Prop}
    (hin : k ∈ L.map (·.2) → Q (.there none) s)
    (hout : ∀ K, k ∉ L.map (·.2) → way t.mask (k.hash w) K ∉ t.place.toList → (∀ c, c < K → way t.mask (k.hash w) c ∈ t.place.toList) → Q (.free (way t.mask (k.hash w) K) false) s) :
    wpAny (model P w) A (setSearch a (.ref x) (k.hash w) true) Q E s := by
  obtain ⟨K, hKf, hK, hKb⟩ := R.tab.first (by rw [List.length_map]; have := R.room; omega) (k.hash w)
  have hbig : K < 100000 := by
    have : 10 * SetTable.turns t.mask ≤ 1420 := by
      unfold SetTable.turns
      rcases R.tab.mok with e | e | e <;> omega
    omega
  refine searchN_from R hx hu ⟨hKf, hK, hKb, hin, fun hn => hout K hn hK hKb⟩ 100000 0 none rfl (Nat.zero_le _) (by omega) fun i p hp hk => ?_
  have hi : (L.map fun p => p.2.hash w)[i]? = some (k.hash w) := by rw [List.getElem?_map, hp, ← hk]; rfl
  have hil : i < t.place.toList.length := by
    have h1 : i < L.length := (List.getElem?_eq_some_iff.mp hp).1
    have h2 := R.tab.sz
    rw [List.length_map] at h2
    rw [Array.length_toList]
    omega
  have hj := List.getElem?_eq_getElem hil
  obtain ⟨c, hc, e⟩ := R.tab.before hK hi hj
  exact ⟨c, Nat.zero_le _, hc, by rw [hj, e]⟩
end
end PD

set_option Elab.async false
set_option linter.all false
set_option maxRecDepth 100000
set_option maxHeartbeats 4000000
/-! PDsc: sets whose members are tuples: laid anew, adding, set(xs). -/
namespace PD
open PySem PySem.Spec PyProof.Rows L2

section
variable {P : Program} {w : World} {A : Around} {E : Value → Shared → Prop} {s : Shared} {a : Addr} {L : List (Addr × NestedKey)} {es : Array (Int × Value)} {ep : Nat} {t : SetTable}
theorem KeyAt.same {h h' : Heap} {k : NestedKey} {b : Addr} {o : Obj} (x : KeyAt P w h k b) (ho : h.get? a = some o) (hd : o.data = .set es ep t) (hs : Heap.SameBut a h h') : KeyAt P w h' k b :=
  ⟨NestedIs.at (fun c oc vs n hc hcd => by
    refine (hs.2 c fun e => ?_).trans hc
    subst e
    rw [ho] at hc
    cases hc
    rw [hd] at hcd
    cases hcd) k _ x.1, x.2⟩
theorem KeyAt.keep {h h' : Heap} {k : NestedKey} {b : Addr} (x : KeyAt P w h k b) (hk : ∀ c o, h.get? c = some o → h'.get? c = some o) : KeyAt P w h' k b :=
  ⟨NestedIs.at (fun c oc vs n hc _ => hk c oc hc) k _ x.1, x.2⟩
/-- entry i of a row, its hash -/
theorem hash_at (h : es.toList = rowsN w L) {i : Nat} {p : Addr × NestedKey} (e : L[i]? = some p) : (es.map (·.1)).getD i 0 = p.2.hash w := by
  have : (es.map (·.1))[i]? = some (p.2.hash w) := by rw [Array.getElem?_map, rowsN_at h e]; rfl
  simp [Array.getD_eq_getD_getElem?, this]
theorem rows_pick (h : es.toList = rowsN w L) : ∀ l : List Nat, (∀ i ∈ l, i < L.length) → l.filterMap (fun i => es[i]?) = rowsN w (l.filterMap fun i => L[i]?) ∧ ((l.filterMap fun i => L[i]?).map fun p => p.2.hash w) = l.map fun i => (es.map (·.1)).getD i 0
  | [], _ => ⟨rfl, rfl⟩
  | i :: l, hl => by
    obtain ⟨e1, e2⟩ := rows_pick h l fun j hj => hl j (List.mem_cons_of_mem _ hj)
    have hlt := hl i List.mem_cons_self
    have hi : L[i]? = some L[i] := List.getElem?_eq_getElem hlt
    have hrow : es[i]? = some ((L[i]).2.hash w, Value.ref (L[i]).1) := rowsN_at h hi
    rw [List.filterMap_cons_some hrow, List.filterMap_cons_some hi, e1, List.map_cons, e2, List.map_cons, hash_at h hi]
    exact ⟨rfl, rfl⟩
theorem pick_all {α : Type} (L : List α) : (List.range L.length).filterMap (fun i => L[i]?) = L := by
  have key : ∀ n, n ≤ L.length → (List.range n).filterMap (fun i => L[i]?) = L.take n := by
    intro n
    induction n with
    | zero => intro _; rfl
    | succ n ih =>
      intro hn
      rw [List.range_succ, List.filterMap_append, ih (Nat.le_of_lt hn), List.take_succ, List.getElem?_eq_getElem hn, List.filterMap_cons_some (List.getElem?_eq_getElem hn)]
      rfl
  rw [key L.length (Nat.le_refl _), List.take_length]
theorem rows_order (h : es.toList = rowsN w L) {order : Array Nat} (hp : order.toList.Perm (List.range L.length)) :
    ∃ L2, (order.filterMap (es[·]?)).toList = rowsN w L2 ∧ L2.Perm L ∧ (L2.map fun p => p.2.hash w) = order.toList.map fun i => (es.map (·.1)).getD i 0 := by
  obtain ⟨e1, e2⟩ := rows_pick h order.toList fun i hi => List.mem_range.mp (hp.mem_iff.mp hi)
  refine ⟨_, by first | (rw [Array.toList_filterMap]; exact e1) | simpa using e1, ?_, e2⟩
  have := hp.filterMap fun i => L[i]?
  rwa [pick_all] at this
/-- a set as it stands, but for its room -/
structure SetQ (P : Program) (w : World) (h : Heap) (a : Addr) (L : List (Addr × NestedKey)) (es : Array (Int × Value)) (ep : Nat) (t : SetTable) : Prop where
  ob : ∃ o, h.get? a = some o ∧ o.ExactSet ∧ o.data = .set es ep t
  rows : es.toList = rowsN w L
  tab : TabOk t (L.map fun p => p.2.hash w)
  nd : (L.map (·.2)).Nodup
  key : ∀ p ∈ L, KeyAt P w h p.2 p.1
  led : w.params.followText "set-order" = true ∨ t.led = true
  few : L.length < 64
  fl : L.length ≤ t.mask
theorem relayN (R : SetQ P w s.heap a L es ep t) {wanted M : Nat} (hw : SetTable.sizeAbove wanted - 1 = M) (hM : MaskOk M) (hw2 : SetTable.sizeAbove wanted ≤ 128) (hn : L.length * 5 < M * 3) {Q : Unit → Shared → Prop}
    (hQ : ∀ h' L' es' ep' t', Heap.SameBut a s.heap h' → SetN P w h' a L' es' ep' t' → L'.Perm L → Q () { s with heap := h' }) : wpAny (model P w) A (setRelay a wanted) Q E s := by
  obtain ⟨o, ho, hex, hd⟩ := R.ob
  have hsl := rowsN_size R.rows
  have hfew := R.few
  obtain ⟨t', order, e, hp, T, em, el, ep', ed⟩ := relaid_ok t (hs := es.map (·.1)) (wanted := wanted) hw hM (by rw [Array.size_map, hsl]; omega)
  rw [Array.size_map, hsl] at hp
  obtain ⟨L2, r1, r2, r3⟩ := rows_order R.rows hp
  rw [← r3] at T
  have hs2 : (order.filterMap (es[·]?)).size = L.length := by rw [rowsN_size r1, r2.length_eq]
  rw [setRelay_eq]
  refine wpAny_bind (wpAny_setState_of ho hd (tab_fits R.tab hsl R.fl) ?_)
  dsimp only
  refine wp_if_neg (by rw [sizeLine_eq]; omega) ?_
  try refine wpAny_bind (wpAny_pure ?_)
  rw [e]
  dsimp only
  refine wpAny_bind (wp_if_neg (by rw [hs2, hsl]; simp) ?_)
  try refine wpAny_bind (wpAny_pure ?_)
  refine wpAny_pure ?_
  dsimp only
  refine wpAny_storeSet_of ho hd ?_ (by rw [hs2, sizeLine_eq]; omega)
  have sb : Heap.SameBut a s.heap (s.heap.update a (Obj.putSet (order.filterMap (es[·]?)) t')) := Heap.SameBut.update ..
  exact hQ _ L2 _ (ep + 1) t' sb ⟨⟨_, store_at ho hd, ⟨hex.1, hex.2.1, hex.2.2⟩, rfl⟩, r1, T, (r2.map (·.2)).nodup_iff.mpr R.nd, fun p hpm => (R.key p (r2.mem_iff.mp hpm)).same ho hd sb, by rw [el]; exact R.led, by rw [r2.length_eq, em]; exact hn, by rw [r2.length_eq]; exact hfew⟩ r2
theorem addN (R : SetN P w s.heap a L es ep t) {x : Addr} {k : NestedKey} (hx : KeyAt P w s.heap k x) (hu : A.units + 8 < cLine) (hfew : L.length + 1 < 64) {Q : Bool → Shared → Prop}
    (hQ : ∀ b h' L' es' ep' t', Heap.SameBut a s.heap h' → SetN P w h' a L' es' ep' t' → (k ∈ L.map (·.2) → L' = L) → (k ∉ L.map (·.2) → L'.Perm ((x, k) :: L)) → Q b { s with heap := h' }) :
    wpAny (model P w) A (setAddHashed a (.ref x) (k.hash w)) Q E s := by
  obtain ⟨o, ho, hex, hd⟩ := R.ob
  have hsl := rowsN_size R.rows
  have hroom := R.room
  unfold setAddHashed
  refine wpAny_holding ?_
  rw [show (100000 : Nat) = 99999 + 1 from rfl, setAddHashedIn_succ]
  refine wpAny_bind (wpAny_setState_of ho hd R.fits ?_)
  dsimp only
  refine wp_if_neg (by simp [byScan, Value.scannable]) ?_
  try refine wpAny_bind (wpAny_pure ?_)
  refine wpAny_bind (searchN R hx hu (fun hm => ?_) fun K hm hK hb => ?_)
  · dsimp only
    exact wpAny_pure (hQ false s.heap L es ep t (Heap.SameBut.refl a s.heap) R (fun _ => rfl) fun z => absurd hm z)
  · dsimp only
    refine wpAny_bind (wpAny_setState_of ho hd R.fits ?_)
    dsimp only
    obtain ⟨q1, q2, q3, q4, q5, q6, q7, q8, q9⟩ := R.tab.put hK hb
    generalize hpt : t.put (way t.mask (k.hash w) K) = pt at q1 q3 q4 q5 q6 q7 q8 q9 ⊢
    obtain ⟨t1, p⟩ := pt
    dsimp only at q1 q3 q4 q5 q6 q7 q8 q9 ⊢
    subst q1
    have key : ∀ (b : Bool), wpAny (model P w) A (do
        storeSet a (SetTable.insertAt es (SetTable.below t.place (way t.mask (k.hash w) K)) (k.hash w, Value.ref x)) (if b then t1 else { t1 with plain := false })
        if !false && (if b then t1 else { t1 with plain := false }).tooFull then setRelay a (SetTable.grown (es.size + 1))
        return true) Q E s := by
      intro b
      have hT : ∀ {hs : List Int}, TabOk t1 hs → TabOk (if b then t1 else { t1 with plain := false }) hs := fun T => by
        cases b
        · exact ⟨T.ris, T.dm, T.sz, T.mok, T.bd, T.reach⟩
        · exact T
      have hm4 : (if b then t1 else { t1 with plain := false }).mask = t.mask := by cases b <;> exact q4
      have hl5 : (if b then t1 else { t1 with plain := false }).led = t.led := by cases b <;> exact q5
      have hf9 : (if b then t1 else { t1 with plain := false }).fill = L.length + 1 := by
        rw [List.length_map] at q9
        cases b <;> exact q9
      have q3' := hT q3
      generalize (if b then t1 else { t1 with plain := false }) = t2 at q3' hm4 hl5 hf9 ⊢
      have hin : (SetTable.insertAt es (SetTable.below t.place (way t.mask (k.hash w) K)) (k.hash w, Value.ref x)).toList = rowsN w (L.take (SetTable.below t.place (way t.mask (k.hash w) K)) ++ (x, k) :: L.drop (SetTable.below t.place (way t.mask (k.hash w) K))) := by
        rw [SetTable.toList_insertAt, R.rows]
        unfold rowsN
        rw [List.map_append, List.map_cons, List.map_take, List.map_drop]
      generalize hpp : SetTable.below t.place (way t.mask (k.hash w) K) = p at q2 q3' hin ⊢
      have pm := put_perm L p (x, k)
      have hhs : (L.take p ++ (x, k) :: L.drop p).map (fun p => p.2.hash w) = (L.map fun p => p.2.hash w).take p ++ k.hash w :: (L.map fun p => p.2.hash w).drop p := by
        rw [List.map_append, List.map_cons, List.map_take, List.map_drop]
      rw [← hhs] at q3'
      have hlen : (L.take p ++ (x, k) :: L.drop p).length = L.length + 1 := pm.length_eq
      have nd1 : ((L.take p ++ (x, k) :: L.drop p).map (·.2)).Nodup := by
        refine (pm.map (·.2)).nodup_iff.mpr ?_
        rw [List.map_cons]
        exact List.nodup_cons.mpr ⟨hm, R.nd⟩
      have hes := rowsN_size hin
      rw [hlen] at hes
      generalize SetTable.insertAt es p (k.hash w, Value.ref x) = es1 at hin hes ⊢
      generalize L.take p ++ (x, k) :: L.drop p = L1 at pm hlen q3' nd1 hin
      refine wpAny_bind (wpAny_storeSet_of ho hd ?_ (by rw [hes, sizeLine_eq]; omega))
      have sb : Heap.SameBut a s.heap (s.heap.update a (Obj.putSet es1 t2)) := Heap.SameBut.update ..
      have ho1 := store_at (es' := es1) (t' := t2) ho hd
      generalize s.heap.update a (Obj.putSet es1 t2) = h1 at sb ho1 ⊢
      have key1 : ∀ p ∈ L1, KeyAt P w h1 p.2 p.1 := fun p hp => by
        rcases List.mem_cons.mp (pm.mem_iff.mp hp) with e | hp
        · rw [e]; exact hx.same ho hd sb
        · exact (R.key p hp).same ho hd sb
      have ld1 : w.params.followText "set-order" = true ∨ t2.led = true := by rw [hl5]; exact R.led
      have full : t2.tooFull = decide ((L.length + 1) * 5 ≥ t.mask * 3) := by
        unfold SetTable.tooFull
        rw [hf9, hm4]
      by_cases hf : (L.length + 1) * 5 ≥ t.mask * 3
      · have hft : t2.tooFull = true := by rw [full]; exact decide_eq_true hf
        first
          | (refine wpAny_bind ?_; refine wp_if_pos (by simp [hft]) ?_)
          | (refine wp_if_pos (by simp [hft]) ?_; refine wpAny_bind ?_)
        rw [hsl]
        have R1 : SetQ P w h1 a L1 es1 (ep + 1) t2 := ⟨⟨_, ho1, ⟨hex.1, hex.2.1, hex.2.2⟩, rfl⟩, hin, q3', nd1, key1, ld1, by rw [hlen]; exact hfew, by
          rw [hlen, hm4]
          rcases R.tab.mok with e | e | e <;> rw [e] at hroom ⊢ <;> omega⟩
        have go : ∀ M, SetTable.sizeAbove (SetTable.grown (L.length + 1)) - 1 = M → MaskOk M → SetTable.sizeAbove (SetTable.grown (L.length + 1)) ≤ 128 → (L.length + 1) * 5 < M * 3 →
            wpAny (model P w) A (setRelay a (SetTable.grown (L.length + 1))) (fun _ s' => wpAny (model P w) A (pure true) Q E s') E { s with heap := h1 } := fun M h1' h2' h3' h4' => by
          refine relayN (s := { s with heap := h1 }) R1 h1' h2' h3' (by rw [hlen]; exact h4') fun h2 L2 es2 ep2 t3 sb2 R2 pm2 => ?_
          exact wpAny_pure (hQ true h2 L2 es2 ep2 t3 (sb.trans sb2) R2 (fun z => absurd z hm) fun _ => pm2.trans pm)
        have cases2 : L.length = 4 ∨ L.length = 18 := by
          rcases R.tab.mok with e | e | e <;> rw [e] at hf hroom <;> omega
        rcases cases2 with e2 | e2
        · exact go 31 (by rw [e2, size_20]) (.inr (.inl rfl)) (by rw [e2, size_20]; decide) (by omega)
        · exact go 127 (by rw [e2, size_76]) (.inr (.inr rfl)) (by rw [e2, size_76]; decide) (by omega)
      · have hft : t2.tooFull = false := by rw [full]; exact decide_eq_false hf
        first
          | refine wp_if_neg (by simp [hft]) ?_
          | (refine wpAny_bind ?_; refine wp_if_neg (by simp [hft]) ?_; refine wpAny_pure ?_)
        refine wpAny_pure (hQ true h1 L1 es1 (ep + 1) t2 sb ⟨⟨_, ho1, ⟨hex.1, hex.2.1, hex.2.2⟩, rfl⟩, hin, q3', nd1, key1, ld1, ?_, by rw [hlen]; exact hfew⟩ (fun z => absurd z hm) fun _ => pm)
        rw [hlen, hm4]
        omega
    by_cases hpl : t1.plain = true
    · first
        | (refine wpAny_bind ?_; refine wp_if_pos hpl ?_; refine anyVal_key _ _ _ _ hx.1 hx.2 A E _ fun b => ?_)
        | refine wp_if_pos hpl (wpAny_bind (anyVal_key _ _ _ _ hx.1 hx.2 A E _ fun b => ?_))
      exact key b
    · first
        | (refine wpAny_bind ?_; refine wp_if_neg hpl ?_; refine wpAny_pure ?_)
        | (refine wp_if_neg hpl ?_; refine wpAny_bind (wpAny_pure ?_))
        | refine wp_if_neg hpl ?_
      exact key true
end
end PD

set_option Elab.async false
set_option linter.all false
set_option maxRecDepth 100000
set_option maxHeartbeats 8000000
/-! PDsd: sets whose members are tuples: set(xs), xs a list or a tuple. -/
namespace PD
open PySem PySem.Spec PyProof.Rows L2

/-- what the set has got from the first i members -/
structure GotN (ks : List (Addr × NestedKey)) (i : Nat) (L : List (Addr × NestedKey)) : Prop where
  sub : ∀ p ∈ L, p ∈ ks.take i
  all : ∀ p ∈ ks.take i, p.2 ∈ L.map (·.2)
  len : L.length ≤ i
theorem GotN.zero (ks : List (Addr × NestedKey)) : GotN ks 0 [] := ⟨fun p h => (nomatch h), fun p h => by simp at h, Nat.le_refl _⟩
theorem GotN.next {ks L L' : List (Addr × NestedKey)} {i : Nat} {x : Addr × NestedKey} (g : GotN ks i L) (h : ks[i]? = some x) (c1 : x.2 ∈ L.map (·.2) → L' = L) (c2 : x.2 ∉ L.map (·.2) → L'.Perm (x :: L)) : GotN ks (i + 1) L' := by
  have ht : ks.take (i + 1) = ks.take i ++ [x] := by rw [List.take_succ, h]; rfl
  have hg := g.len
  by_cases m : x.2 ∈ L.map (·.2)
  · rw [c1 m]
    refine ⟨fun p hp => by rw [ht]; exact List.mem_append_left _ (g.sub p hp), fun p hp => ?_, by omega⟩
    rw [ht] at hp
    rcases List.mem_append.mp hp with hp | hp
    · exact g.all p hp
    · rw [List.mem_singleton.mp hp]; exact m
  · have pm := c2 m
    refine ⟨fun p hp => ?_, fun p hp => ?_, by rw [pm.length_eq]; simp; omega⟩
    · rw [ht]
      rcases List.mem_cons.mp (pm.mem_iff.mp hp) with e | hp
      · rw [e]; simp
      · exact List.mem_append_left _ (g.sub p hp)
    · rw [ht] at hp
      have := (pm.map (·.2)).mem_iff (a := p.2)
      rw [this, List.map_cons]
      rcases List.mem_append.mp hp with hp | hp
      · exact List.mem_cons_of_mem _ (g.all p hp)
      · rw [List.mem_singleton.mp hp]; exact List.mem_cons_self
section
variable {P : Program} {w : World} {A : Around} {E : Value → Shared → Prop} {s : Shared}
theorem SetN.keep {h h' : Heap} {a : Addr} {L : List (Addr × NestedKey)} {es : Array (Int × Value)} {ep : Nat} {t : SetTable} (R : SetN P w h a L es ep t) (ha : ∀ o, h.get? a = some o → h'.get? a = some o) (ht : ∀ p ∈ L, KeyAt P w h' p.2 p.1) : SetN P w h' a L es ep t := by
  obtain ⟨o, ho, r⟩ := R.ob
  exact ⟨⟨o, ha o ho, r⟩, R.rows, R.tab, R.nd, ht, R.led, R.room, R.few⟩
/-- the table that a new set has -/
abbrev tab0 (w : World) : SetTable := .fresh 0 0 (!w.params.followText "set-order")
abbrev newSetO (w : World) : Obj := { cls := .type "set", dict := none, data := .set #[] 0 (tab0 w) }
theorem SetN.fresh {h : Heap} {a : Addr} (ho : h.get? a = some (newSetO w)) : SetN P w h a [] #[] 0 (tab0 w) where
  ob := ⟨_, ho, ⟨rfl, rfl, rfl⟩, rfl⟩
  rows := rfl
  tab := ⟨List.Pairwise.nil, rfl, rfl, .inl rfl, fun x hx => (nomatch hx), fun i h j hi => by simp at hi⟩
  nd := List.nodup_nil
  key := fun p hp => (nomatch hp)
  led := by
    show _ ∨ (!w.params.followText "set-order") = true
    cases w.params.followText "set-order"
    · exact .inr rfl
    · exact .inl rfl
  room := show 0 * 5 < 7 * 3 by decide
  few := show 0 < 64 by decide
/-- set.update's loop -/
theorem updateN {I : Addr} {fp wr : List Addr} {G : Array GenState → Array GenState → Prop} {n : Nat} {Pv : Nat → Value → Prop} {St : Nat → Shared → Prop} {R : Result → Shared → Prop}
    (W : WalksS P w A.in1 I fp wr G n Pv St) (S : Addr) (hSf : S ∉ fp) (ks : List (Addr × NestedKey)) (hn : n = ks.length) (hfew : ks.length < 64) (hval : ∀ i v, Pv i v → ∃ p, ks[i]? = some p ∧ v = .ref p.1)
    (h0 : Heap) (hk : ∀ p ∈ ks, KeyAt P w h0 p.2 p.1) (hS0 : h0.get? S = none) (hw0 : ∀ b ∈ wr, h0.get? b = none) (hu : A.in1.units + 8 < cLine) :
    ∀ (k i : Nat) (s : Shared), n - i = k → i ≤ n → St i s → (∀ b o, h0.get? b = some o → s.heap.get? b = some o) → (∃ L es ep t, SetN P w s.heap S L es ep t ∧ GotN ks i L) →
      (∀ s' L es ep t, Moved (S :: wr) G s s' → SetN P w s'.heap S L es ep t → GotN ks n L → (∀ b o, h0.get? b = some o → s'.heap.get? b = some o) → R (.ok (.ret .none)) s') →
      codeAny (model P w) A (.builtin "set.update.loop" ⟨[.ref S, .ref I], []⟩) R s := by
  have hSw : S ∉ wr := fun h => hSf (W.sub _ h)
  have more : ∀ b ∈ wr, b ∈ S :: wr := fun b hb => List.mem_cons_of_mem _ hb
  have on : ∀ {s s' : Shared}, Moved wr G s s' → (∀ b o, h0.get? b = some o → s.heap.get? b = some o) → ∀ b o, h0.get? b = some o → s'.heap.get? b = some o := fun hm hkp b o e =>
    hm.heap b o (fun hb => by rw [hw0 b hb] at e; cases e) (hkp b o e)
  have inKs : ∀ {i L}, GotN ks i L → ∀ p ∈ L, p ∈ ks := fun g p hp => List.mem_of_mem_take (g.sub p hp)
  intro k
  induction k with
  | zero =>
    intro i s hk' hi hst hkp ⟨L, es, ep, t, hS, g⟩ hR
    have hin : i = n := by omega
    subst hin
    refine codeAny_builtin F.entry_set_update_loop ?_
    rw [Around.under_plainId F.plain_set_update_loop _]
    show wpAny _ A.in1 (pyNext (.ref I) >>= _) _ _ s
    refine wpAny_bind (W.done s _ _ hst fun s' hm => ?_)
    show wpAny _ A.in1 (ret Value.none) _ _ s'
    have hkp' := on hm hkp
    exact wpAny_pure (hR s' L es ep t (hm.mono more) (hS.keep (fun o e => hm.heap S o hSw e) fun p hp => (hk p (inKs g p hp)).keep hkp') g hkp')
  | succ k ih =>
    intro i s hk' hi hst hkp ⟨L, es, ep, t, hS, g⟩ hR
    have hlt : i < n := by omega
    refine codeAny_builtin F.entry_set_update_loop ?_
    rw [Around.under_plainId F.plain_set_update_loop _]
    show wpAny _ A.in1 (pyNext (.ref I) >>= _) _ _ s
    refine wpAny_bind (W.item i s _ _ hlt hst fun v s' hP hst' hm => ?_)
    obtain ⟨p, hp, rfl⟩ := hval i v hP
    have hkp' := on hm hkp
    have hS' : SetN P w s'.heap S L es ep t := hS.keep (fun o e => hm.heap S o hSw e) fun q hq => (hk q (inKs g q hq)).keep hkp'
    have hx : KeyAt P w s'.heap p.2 p.1 := (hk p (List.mem_of_getElem? hp)).keep hkp'
    show wpAny _ A.in1 (holding [Value.ref p.1] (setAdd S (.ref p.1)) >>= _) _ _ s'
    refine wpAny_bind (wpAny_holding ?_)
    unfold setAdd
    refine wpAny_holding ?_
    refine wpAny_bind ((nestedKind P w).pyHash hu hx ?_)
    refine addN (s := { s' with toks := s'.toks + p.2.draws }) hS' hx hu (by have := g.len; omega) fun b h' L' es' ep' t' hsb hS2 c1 c2 => ?_
    have g' : GotN ks (i + 1) L' := g.next hp c1 c2
    have hkp2 : ∀ b o, h0.get? b = some o → h'.get? b = some o := fun b o e => (hsb.2 b (fun z => by rw [z, hS0] at e; cases e)).trans (hkp' b o e)
    refine wpAny_pure ⟨plainId_quiet F.plain_set_update_loop _, ih (i + 1) _ (by omega) hlt (W.frame _ s' _ _ hst' (Nat.le_add_right _ _) fun b hb o e => ?_) hkp2 ⟨L', es', ep', t', hS2, g'⟩ fun s'' L2 es2 ep2 t2 hm'' hS'' g'' hkp'' => ?_⟩
    · rw [hsb.2 b (fun h : b = S => hSf (by rw [← h]; exact hb))]; exact e
    · refine hR s'' L2 es2 ep2 t2 (Moved.trans W.gtrans ((hm.mono more).then_heap (Nat.le_add_right _ _) fun b o hb e => ?_) hm'') hS'' g'' hkp''
      rw [hsb.2 b (fun h : b = S => hb (by rw [h]; exact List.mem_cons_self))]; exact e
/-- a thing that is walked item by item, and stays -/
def Iters (P : Program) (w : World) (l : Addr) (items : Array Value) (h : Heap) : Prop := ∀ (A : Around) (E : Value → Shared → Prop) (Q : Value → Shared → Prop) (s : Shared), (∀ b o, h.get? b = some o → s.heap.get? b = some o) →
  (∀ h', (∀ b o, s.heap.get? b = some o → h'.get? b = some o) → (∀ A' : Around, A'.handled = none → ∃ St, WalksS P w A' s.heap.objs.size [s.heap.objs.size, l] [s.heap.objs.size] (fun a b => b = a) items.size (fun i v => items[i]? = some v) St ∧ St 0 { s with heap := h' }) → Q (.ref s.heap.objs.size) { s with heap := h' }) →
  wpAny (model P w) A (pyIter (.ref l)) Q E s
theorem iters_list {l : Addr} {items : Array Value} {h : Heap} (hl : h.IsList l items) : Iters P w l items h := by
  intro A E Q s hk q
  obtain ⟨o, ho, hc, n, hd⟩ := id hl
  have hl1 : s.heap.IsList l items := ⟨o, hk l o ho, hc, n, hd⟩
  have hlt : l < s.heap.objs.size := Heap.lt_size (hk l o ho)
  exact wpAny_pyIter_list hl1 (q _ (fun b o e => Heap.get?_push_of_some _ e) fun A' hh => ⟨_, (Walks.list hh _ l (Nat.ne_of_lt hlt) items).toS, ⟨_, Heap.get?_push_size _ rfl, rfl, rfl⟩, hl1.push _⟩)
theorem iters_tup {l : Addr} {items : Array Value} {h : Heap} (hl : h.IsTuple l items) : Iters P w l items h := by
  intro A E Q s hk q
  obtain ⟨o, ho, hc, n, hd⟩ := id hl
  have hl1 : s.heap.IsTuple l items := ⟨o, hk l o ho, hc, n, hd⟩
  have hlt : l < s.heap.objs.size := Heap.lt_size (hk l o ho)
  exact wpAny_pyIter_tuple hl1 (q _ (fun b o e => Heap.get?_push_of_some _ e) fun A' hh => ⟨_, (Walks.tuple hh _ l (Nat.ne_of_lt hlt) items).toS, ⟨_, Heap.get?_push_size _ rfl, rfl, rfl⟩, hl1.push _⟩)
/-- set(xs) -/
theorem call_setN {l : Addr} {T : String} {items : Array Value} (ks : List (Addr × NestedKey)) {Q : Value → Shared → Prop} (hh : A.handled = none) (hTl : s.TypeIs (.ref l) T) (hsls : isSubtype (.type T) (.type "set") = pure false) (hslf : isSubtype (.type T) (.type "frozenset") = pure false)
    (hne : (Value.type T == Value.type "dict") = false) (hit0 : Iters P w l items s.heap) (hit : items.toList = ks.map fun p => Value.ref p.1)
    (hk : ∀ p ∈ ks, KeyAt P w s.heap p.2 p.1) (hfew : ks.length < 64) (hu : A.units + 16 < cLine)
    (h : ∀ (h' : Heap) (tk : Nat) L es ep t, SetN P w h' s.heap.objs.size L es ep t → GotN ks ks.length L → (∀ b o, s.heap.get? b = some o → h'.get? b = some o) → Q (.ref s.heap.objs.size) { s with heap := h', toks := tk }) :
    wpAny (model P w) A (call (.type "set") [.ref l]) Q E s := by
  have hisz : items.size = ks.length := by
    have q := congrArg List.length hit
    rw [Array.length_toList, List.length_map] at q
    exact q
  obtain ⟨c, tl, hmro⟩ := F.called_set.mro
  have hmade := F.called_set.made
  have hsub := F.called_set.sub
  refine wpAny_call (codeAny_of_tree ?_)
  show wpAny _ _ (callAny (.type "set") _) _ _ _
  refine wpAny_pure ⟨Code.quiet_builtin _ (by decide +kernel), codeAny_builtin F.entry_type_call ?_⟩
  rw [Around.under_plain (weight_type_call_type "set" [.ref l] []) rfl]
  have h1 := F.called_set.notType
  have h2 := F.called_set.canCreate
  have hct := F.typeCall_set_1 (.ref l)
  repeat (any_goals (first | assumption | wp_step))
  refine codeAny_mono (code_set_led1 (.ref l) (E := E) (Q₁ := fun obj s₁ => obj = .ref s.heap.objs.size ∧ s₁ = { s with heap := s.heap.push (newSetO w) }) ⟨rfl, rfl⟩) fun r s₁ hr => ?_
  cases r with
  | error e => exact hr
  | ok fl =>
    cases fl with
    | ret obj =>
      obtain ⟨rfl, rfl⟩ := hr
      have hS : (s.heap.push (newSetO w)).get? s.heap.objs.size = some (newSetO w) := Heap.get?_push_size _ rfl
      have hT : Shared.TypeIs { s with heap := s.heap.push (newSetO w) } (.ref s.heap.objs.size) "set" := ⟨_, hS, rfl⟩
      have hli := F.called_set.init.lookup
      have hbi := F.called_set.init.bind (.ref s.heap.objs.size)
      repeat (any_goals (first | assumption | wp_step))
      refine codeAny_mono (codeAny_call_builtin (R := wants (fun r s₂ => r = .none ∧ ∃ h' tk L es ep t, s₂ = { s with heap := h', toks := tk } ∧ SetN P w h' s.heap.objs.size L es ep t ∧ GotN ks ks.length L ∧
          (∀ b o, s.heap.get? b = some o → h'.get? b = some o)) E) F.called_set.init.plain F.entry_set_init (check_set_init_1 hT ?_)) fun r₂ s₂ hr₂ => ?_
      · obtain ⟨ol, hol, hcl⟩ := hTl
        obtain ⟨ocls, odict, odata, oslots⟩ := ol
        simp only at hcl
        subst hcl
        have hol' : (s.heap.push (newSetO w)).get? l = some { cls := .type T, dict := odict, data := odata, slots := oslots } := Heap.get?_push_of_some _ hol
        unfold Builtin.«set.__init__» noKeywords Builtin.Frozenset.updateFrom
        generalize hPI : pyIter = PI
        wp_walk
        subst hPI
        refine hit0 _ _ _ _ (fun b o e => Heap.get?_push_of_some _ e) fun h' hk' hw => ?_
        refine wpAny_bind (wpAny_runValue ?_)
        have hlS : l < s.heap.objs.size := Heap.lt_size hol
        have hh3 : A.in1.in1.in1.handled = none := by simp [hh]
        have hz1 : (s.heap.push (newSetO w)).objs.size = s.heap.objs.size + 1 := Heap.size_push ..
        have hSf : s.heap.objs.size ∉ [(s.heap.push (newSetO w)).objs.size, l] := by
          rw [Heap.size_push]; simp only [List.mem_cons, List.mem_singleton, List.not_mem_nil, or_false, not_or]
          exact ⟨Nat.ne_of_lt (Nat.lt_succ_self _), Nat.ne_of_gt hlS⟩
        have hval : ∀ (i : Nat) (v : Value), items[i]? = some v → ∃ p, ks[i]? = some p ∧ v = .ref p.1 := fun i v hv => by
          have q : items.toList[i]? = some v := by rw [Array.getElem?_toList]; exact hv
          rw [hit, List.getElem?_map] at q
          cases hq : ks[i]? with
          | none => rw [hq] at q; cases q
          | some p =>
            rw [hq] at q
            exact ⟨p, rfl, (Option.some.inj q).symm⟩
        have none_of : ∀ b, s.heap.objs.size ≤ b → s.heap.get? b = none := fun b hb => by
          cases q : s.heap.get? b with
          | none => rfl
          | some o => exact absurd (Nat.lt_of_lt_of_le (Heap.lt_size q) hb) (Nat.lt_irrefl _)
        obtain ⟨St, W, st0⟩ := hw _ hh3
        refine updateN W s.heap.objs.size hSf ks hisz hfew hval s.heap hk (none_of _ (Nat.le_refl _)) (fun b hb => none_of b (by
            rw [List.mem_singleton.mp hb, Heap.size_push]
            exact Nat.le_succ _)) (by simp only [Around.in1_units]; omega) (items.size - 0) 0 _ (by omega) (Nat.zero_le _) st0 (fun b o e => hk' b o (Heap.get?_push_of_some _ e)) ⟨[], #[], 0, _, SetN.fresh (hk' _ _ hS), GotN.zero ks⟩ ?hR
        case hR =>
          intro s' L es ep t hm hS' g' hkp
          obtain ⟨h', g2, d', tk', os'⟩ := s'
          have eg : g2 = s.gens := hm.gens
          have ed : d' = s.drawn := hm.drawn
          have eo : os' = s.os := hm.os
          subst eg; subst ed; subst eo
          show wpAny _ _ _ _ _ _
          refine wpAny_pure ?_
          show wpAny _ _ (ret Value.none) _ _ _
          rw [hisz] at g'
          exact wpAny_pure ⟨rfl, h', tk', L, es, ep, t, rfl, hS', g', hkp⟩
      · cases r₂ with
        | error e => exact hr₂
        | ok fl₂ =>
          cases fl₂ with
          | ret r =>
            obtain ⟨rfl, h', tk, L, es, ep, t, rfl, hS', g', hk'⟩ := hr₂
            repeat (any_goals (first | assumption | wp_step))
            exact h _ _ _ _ _ _ hS' g' hk'
          | _ => exact hr₂.elim
    | _ => exact hr.elim
end
end PD

set_option Elab.async false
set_option linter.all false
set_option maxRecDepth 100000
set_option maxHeartbeats 4000000
/-! PDse: data as members of a set; plain data. -/
namespace PD
open PySem PySem.Spec PyProof.Rows L2

/-! ### plain data: whole numbers, texts, None, tuples of such -/
mutual
def plainK : D → Bool
  | .none => true
  | .bool _ => false
  | .int _ => true
  | .str _ => true
  | .tuple ds => plainKs ds
  | .list _ => false
  | .dict _ => false
def plainKs : List D → Bool
  | [] => true
  | d :: ds => plainK d && plainKs ds
end
theorem plainKs_iff : ∀ {ds : List D}, plainKs ds = true ↔ ∀ d ∈ ds, plainK d = true
  | [] => by simp [plainKs]
  | d :: ds => by simp [plainKs, plainKs_iff (ds := ds)]
mutual
theorem nkey_plain : ∀ (d : D), plainK d = true → ∃ k, nkey d = some k ∧ k.data = d ∧ k.depth = d.depth
  | .none, _ => ⟨.none, rfl, rfl, rfl⟩
  | .bool _, h => nomatch h
  | .int i, _ => ⟨.num i, rfl, rfl, rfl⟩
  | .str x, _ => ⟨.text x, rfl, rfl, rfl⟩
  | .tuple ds, h => by
    obtain ⟨ks, h1, h2, h3⟩ := nkeys_plain ds (by simpa [plainK] using h)
    exact ⟨.tup ks, by simp [nkey, h1], by simp [NestedKey.data, h2], by simp [NestedKey.depth, PyData.depth, h3]⟩
  | .list _, h => nomatch h
  | .dict _, h => nomatch h
theorem nkeys_plain : ∀ (ds : List D), plainKs ds = true → ∃ ks, nkeys ds = some ks ∧ NestedKey.datas ks = ds ∧ NestedKey.depthAll ks = PyData.depthAll ds
  | [], _ => ⟨[], rfl, rfl, rfl⟩
  | d :: ds, h => by
    simp only [plainKs, Bool.and_eq_true] at h
    obtain ⟨k, h1, h2, h3⟩ := nkey_plain d h.1
    obtain ⟨ks, q1, q2, q3⟩ := nkeys_plain ds h.2
    exact ⟨k :: ks, by simp [nkeys, h1, q1], by simp [NestedKey.datas, h2, q2], by simp [NestedKey.depthAll, PyData.depthAll, h3, q3]⟩
end
theorem nkey_inj {a b : D} (ha : plainK a = true) (hb : plainK b = true) (h : nkey a = nkey b) : a = b := by
  obtain ⟨k, h1, h2, _⟩ := nkey_plain a ha
  obtain ⟨k', q1, q2, _⟩ := nkey_plain b hb
  rw [h1, q1] at h
  cases h
  rw [← h2, ← q2]
mutual
theorem eqv_plain : ∀ (a b : D), plainK a = true → plainK b = true → PyData.eqv a b = true → a = b
  | .none, b, _, hb, h => by cases b <;> simp [PyData.eqv, plainK] at h hb ⊢
  | .bool _, _, ha, _, _ => nomatch ha
  | .int i, b, _, hb, h => by cases b <;> simp [PyData.eqv, plainK] at h hb ⊢; exact h
  | .str i, b, _, hb, h => by cases b <;> simp [PyData.eqv, plainK] at h hb ⊢; exact h
  | .tuple xs, b, ha, hb, h => by
    cases b with
    | tuple ys => rw [eqvAll_plain xs ys (by simpa [plainK] using ha) (by simpa [plainK] using hb) (by simpa [PyData.eqv] using h)]
    | bool _ => cases hb
    | list _ => cases hb
    | dict _ => cases hb
    | none => simp [PyData.eqv] at h
    | int _ => simp [PyData.eqv] at h
    | str _ => simp [PyData.eqv] at h
  | .list _, _, ha, _, _ => nomatch ha
  | .dict _, _, ha, _, _ => nomatch ha
theorem eqvAll_plain : ∀ (a b : List D), plainKs a = true → plainKs b = true → PyData.eqvAll a b = true → a = b
  | [], b, _, _, h => by cases b <;> simp [PyData.eqvAll] at h ⊢
  | x :: xs, b, ha, hb, h => by
    cases b with
    | nil => simp [PyData.eqvAll] at h
    | cons y ys =>
      simp only [plainKs, Bool.and_eq_true] at ha hb
      simp only [PyData.eqvAll, Bool.and_eq_true] at h
      rw [eqv_plain x y ha.1 hb.1 h.1, eqvAll_plain xs ys ha.2 hb.2 h.2]
end
mutual
theorem eqv_refl : ∀ (a : D), plainK a = true → PyData.eqv a a = true
  | .none, _ => rfl
  | .bool _, h => nomatch h
  | .int i, _ => by simp [PyData.eqv]
  | .str x, _ => by simp [PyData.eqv]
  | .tuple ds, h => by simp only [PyData.eqv]; exact eqvAll_refl ds (by simpa [plainK] using h)
  | .list _, h => nomatch h
  | .dict _, h => nomatch h
theorem eqvAll_refl : ∀ (a : List D), plainKs a = true → PyData.eqvAll a a = true
  | [], _ => rfl
  | d :: ds, h => by
    simp only [plainKs, Bool.and_eq_true] at h
    simp only [PyData.eqvAll, eqv_refl d h.1, eqvAll_refl ds h.2, Bool.and_self]
end
theorem eqv_iff {a b : D} (ha : plainK a = true) (hb : plainK b = true) : PyData.eqv a b = true ↔ a = b := ⟨eqv_plain a b ha hb, fun e => e ▸ eqv_refl a ha⟩
/-- the first of each that are alike -/
def dedupD : List D → List D
  | [] => []
  | d :: ds => d :: (dedupD ds).filter fun e => !decide (nkey e = nkey d)
theorem dedupD_mem : ∀ {ds : List D} {d : D}, d ∈ dedupD ds → d ∈ ds
  | [], _, h => h
  | x :: ds, d, h => by
    rcases List.mem_cons.mp h with h | h
    · rw [h]; exact List.mem_cons_self
    · exact List.mem_cons_of_mem _ (dedupD_mem (List.mem_filter.mp h).1)
theorem dedupD_key : ∀ {ds : List D} {d : D}, d ∈ ds → ∃ e ∈ dedupD ds, nkey e = nkey d
  | x :: ds, d, h => by
    by_cases q : nkey d = nkey x
    · exact ⟨x, List.mem_cons_self, q.symm⟩
    · rcases List.mem_cons.mp h with h | h
      · exact absurd (congrArg nkey h) q
      · obtain ⟨e, he, hk⟩ := dedupD_key h
        exact ⟨e, List.mem_cons_of_mem _ (List.mem_filter.mpr ⟨he, by rw [hk]; simp [q]⟩), hk⟩
theorem dedupD_nodup : ∀ {ds : List D}, ((dedupD ds).map nkey).Nodup
  | [] => List.nodup_nil
  | d :: ds => by
    unfold dedupD
    rw [List.map_cons, List.nodup_cons]
    refine ⟨fun h => ?_, (dedupD_nodup (ds := ds)).sublist (List.filter_sublist.map _)⟩
    obtain ⟨e, he, hk⟩ := List.mem_map.mp h
    have := (List.mem_filter.mp he).2
    simp [hk] at this
theorem dedupD_len (ds : List D) : (dedupD ds).length ≤ ds.length := by
  induction ds with
  | nil => exact Nat.le_refl _
  | cons d ds ih =>
    unfold dedupD
    have := List.length_filter_le (fun e => !decide (nkey e = nkey d)) (dedupD ds)
    simp
    omega
/-- the members of typed data -/
theorem dedupD_map {α : Type} [DecidableEq α] (f : α → D) (hf : ∀ x y, nkey (f x) = nkey (f y) → x = y) : ∀ xs : List α, dedupD (xs.map f) = (xs.foldr (fun x acc => x :: acc.filter fun y => !decide (y = x)) []).map f
  | [] => rfl
  | x :: xs => by
    have ih := dedupD_map f hf xs
    rw [List.map_cons, dedupD, ih, List.foldr_cons, List.map_cons, List.filter_map]
    congr 2
    refine List.filter_congr fun y _ => ?_
    show (!decide (nkey (f y) = nkey (f x))) = _
    by_cases e : y = x
    · subst e; simp
    · have : ¬ nkey (f y) = nkey (f x) := fun h => e (hf _ _ h)
      simp [e, this]
/-! ### sorted, alike whatever the order was -/
theorem dle_trans' (a b c : D) : dleD a b = true → dleD b c = true → dleD a c = true := by
  unfold dleD PySem.W.dataLt
  simp only [Bool.not_eq_true']
  intro h1 h2
  cases h : PyProof.Rows.lexLt itemOrd (PySem.W.keyToks c) (PySem.W.keyToks a) with
  | false => rfl
  | true =>
    exfalso
    cases h3 : PyProof.Rows.lexLt itemOrd (PySem.W.keyToks a) (PySem.W.keyToks b) with
    | true => rw [PyProof.Rows.lex_trans _ _ _ h h3] at h2; cases h2
    | false =>
      have := PyProof.Rows.lex_total _ _ h3 h1
      rw [this] at h
      rw [h] at h2; cases h2
theorem dle_total' (a b : D) : (dleD a b || dleD b a) = true := by
  unfold dleD PySem.W.dataLt
  cases h : PyProof.Rows.lexLt itemOrd (PySem.W.keyToks b) (PySem.W.keyToks a) with
  | false => rfl
  | true =>
    cases h2 : PyProof.Rows.lexLt itemOrd (PySem.W.keyToks a) (PySem.W.keyToks b) with
    | false => rfl
    | true =>
      have := PyProof.Rows.lex_trans _ _ _ h h2
      rw [PyProof.Rows.lex_irrefl] at this
      cases this
theorem toks_ne' {a b : D} (ha : PySem.W.alike a b = true) (h : PyData.eqv a b = false) : PySem.W.keyToks a ≠ PySem.W.keyToks b := fun e => by
  have := (PySem.W.toks_eqv a b ha).2 h [] [.inl 0]
  rw [e, PyProof.Rows.lex_irrefl, PySem.W.lex_pre] at this
  cases this
theorem dle_anti {a b : D} (pa : plainK a = true) (pb : plainK b = true) (al : PySem.W.alike a b = true) (h1 : dleD a b = true) (h2 : dleD b a = true) : a = b := by
  cases q : PyData.eqv a b with
  | true => exact eqv_plain a b pa pb q
  | false =>
    exfalso
    have q1 : PySem.W.dataLt a b = false := by unfold dleD at h2; simpa using h2
    have q2 : PySem.W.dataLt b a = false := by unfold dleD at h1; simpa using h1
    unfold PySem.W.dataLt at q1 q2
    exact toks_ne' al q (PyProof.Rows.lex_total _ _ q1 q2)
/-- two sorted lists of the same members, the order antisymmetric on them -/
theorem eq_of_perm_le {α : Type} {le : α → α → Prop} : ∀ {l l' : List α}, l.Perm l' → l.Pairwise le → l'.Pairwise le → (∀ a ∈ l, ∀ b ∈ l, le a b → le b a → a = b) → l = l'
  | [], l', p, _, _, _ => by rw [p.symm.eq_nil]
  | a :: l, l', p, h, h', anti => by
    cases l' with
    | nil => exact absurd p.eq_nil (by simp)
    | cons b l' =>
      obtain ⟨ha, hl⟩ := List.pairwise_cons.mp h
      obtain ⟨hb, hl'⟩ := List.pairwise_cons.mp h'
      have e : a = b := by
        by_cases q : a = b
        · exact q
        · have hbm : b ∈ a :: l := p.mem_iff.mpr List.mem_cons_self
          have ham : a ∈ b :: l' := p.mem_iff.mp List.mem_cons_self
          have hbl : b ∈ l := (List.mem_cons.mp hbm).resolve_left fun z => q z.symm
          have hal : a ∈ l' := (List.mem_cons.mp ham).resolve_left q
          exact anti a List.mem_cons_self b hbm (ha b hbl) (hb a hal)
      subst e
      rw [eq_of_perm_le (List.perm_cons a |>.mp p) hl hl' fun x hx y hy => anti x (List.mem_cons_of_mem _ hx) y (List.mem_cons_of_mem _ hy)]
theorem sort_perm {ds ds' : List D} (p : ds'.Perm ds) (pl : ∀ d ∈ ds, plainK d = true) (al : ∀ d ∈ ds, ∀ e ∈ ds, PySem.W.alike d e = true) : ds'.mergeSort dleD = ds.mergeSort dleD := by
  refine eq_of_perm_le (le := fun a b => dleD a b = true) (((List.mergeSort_perm ds' dleD).trans p).trans (List.mergeSort_perm ds dleD).symm) (List.pairwise_mergeSort dle_trans' dle_total' ds') (List.pairwise_mergeSort dle_trans' dle_total' ds) fun a ha b hb h1 h2 => ?_
  have ha' : a ∈ ds := p.mem_iff.mp ((List.mergeSort_perm ds' dleD).mem_iff.mp ha)
  have hb' : b ∈ ds := p.mem_iff.mp ((List.mergeSort_perm ds' dleD).mem_iff.mp hb)
  exact dle_anti (pl a ha') (pl b hb') (al a ha' b hb') h1 h2
end PD

set_option Elab.async false
set_option linter.all false
set_option maxRecDepth 100000
set_option maxHeartbeats 4000000
/-! PDsf: sorted(set(xs)), len(set(xs)), xs a list or a tuple of plain tuples. -/
namespace PD
open PySem PySem.Spec PyProof.Rows L2

section
variable {X : Cx} {pins : List (Addr × Obj)} {σ : L2.St} {H : Hp} {s : Shared}
mutual
theorem Rp.nest (I : Inv X pins σ H s) {B : Bs} {W : Wr} : ∀ (d : D) {v : V} {u : Value} {k : NestedKey}, Rp B H W v d → RelV v u → nkey d = some k → NestedIs s.heap k u
  | .none, _, _, _, r, e, h => by
    cases r
    cases h
    cases (show _ = Value.none from e)
    exact .none
  | .bool b, _, _, _, r, e, h => by
    cases r
    cases h
    cases (show _ = Value.bool b from e)
    exact .bool rfl
  | .int i, _, _, _, r, e, h => by
    cases r
    cases h
    obtain ⟨t, rfl⟩ := e
    exact .int i t
  | .str x, _, _, _, r, e, h => by
    cases r
    cases h
    obtain ⟨t, rfl⟩ := e
    exact .text x t
  | .tuple ds, _, _, _, r, e, h => by
    cases r with
    | tup rd nw l q =>
      rename_i a xs
      cases (show _ = Value.ref a from e)
      obtain ⟨its, rv, ht, hz⟩ := I.tuple (show SqT X.K H a xs from .inl rd)
      obtain ⟨o, ho, hc, n, hd⟩ := ht
      cases hk : nkeys ds with
      | none => simp [nkey, hk] at h
      | some ks =>
        simp only [nkey, hk, Option.map_some, Option.some.injEq] at h
        subst h
        exact .tup ho hc hd (by simpa using RpAll.nest I ds q rv hk)
  | .list _, _, _, _, _, _, h => by cases h
  | .dict _, _, _, _, _, _, h => by cases h
theorem RpAll.nest (I : Inv X pins σ H s) {B : Bs} {W : Wr} : ∀ (ds : List D) {vs : List V} {us : List Value} {ks : List NestedKey}, RpAll B H W vs ds → Vals vs us → nkeys ds = some ks → NestedAll s.heap ks us
  | [], _, _, _, r, e, h => by
    cases r
    cases e
    cases h
    exact .nil
  | d :: ds, _, _, ks, r, e, h => by
    cases r with
    | cons r1 r2 =>
      cases e with
      | cons e1 e2 =>
        unfold nkeys at h
        obtain ⟨k, hk, h⟩ := Option.bind_eq_some_iff.mp h
        obtain ⟨ks', hks, rfl⟩ := Option.map_eq_some_iff.mp h
        exact .cons (Rp.nest I d r1 e1 hk) (RpAll.nest I ds r2 e2 hks)
end
end
def isTupD : D → Bool
  | .tuple _ => true
  | _ => false
def setOk (ds : List D) : Bool := ds.all (fun d => isTupD d && plainK d && decide (d.depth ≤ 8)) && decide (ds.length < 64)
/-- the set at a, without its members' own objects -/
structure SetN0 (P : Program) (w : World) (h : Heap) (a : Addr) (L : List (Addr × NestedKey)) : Prop where
  ex : ∃ (es : Array (Int × Value)) (ep : Nat) (t : SetTable), (∃ o, h.get? a = some o ∧ o.ExactSet ∧ o.data = .set es ep t) ∧ es.toList = rowsN w L ∧ TabOk t (L.map fun p => p.2.hash w) ∧ (L.map (·.2)).Nodup ∧
    (w.params.followText "set-order" = true ∨ t.led = true) ∧ L.length * 5 < t.mask * 3 ∧ L.length < 64
def SetNO (P : Program) (w : World) (a : Addr) (L : List (Addr × NestedKey)) : HO := .ext fun h => SetN0 P w h a L
theorem SetN.n0 {P : Program} {w : World} {h : Heap} {a : Addr} {L : List (Addr × NestedKey)} {es : Array (Int × Value)} {ep : Nat} {t : SetTable} (R : SetN P w h a L es ep t) : SetN0 P w h a L := ⟨es, ep, t, R.ob, R.rows, R.tab, R.nd, R.led, R.room, R.few⟩
theorem setNO_new {P : Program} {w : World} {H : Hp} {h : Heap} {a : Addr} {L : List (Addr × NestedKey)} (R : SetN0 P w h a L) : ObjOk P w H h a (SetNO P w a L) := by
  have ⟨es, ep, t, ⟨o, ho, r⟩, q⟩ := R.ex
  refine ⟨R, ⟨o, ho⟩, fun h1 h2 p k => ?_⟩
  have ⟨es', ep', t', ⟨o', ho', r'⟩, q'⟩ := SetN0.ex p
  exact ⟨es', ep', t', ⟨o', k o' ho', r'⟩, q'⟩
/-- data that are tuples: their addresses and keys -/
inductive Mem (B : Bs) (H : Hp) (W : Wr) : List (Addr × NestedKey) → List D → Prop
  | nil : Mem B H W [] []
  | cons {a : Addr} {k : NestedKey} {d : D} {L : List (Addr × NestedKey)} {ds : List D} : Rp B H W (.ref a) d → nkey d = some k → k.depth ≤ 8 → Mem B H W L ds → Mem B H W ((a, k) :: L) (d :: ds)
section
variable {B : Bs} {H H' : Hp} {W W' : Wr}
theorem Mem.keep (k1 : ∀ a o, H a = some o → ¬ W a → H' a = some o) (k2 : ∀ a, W' a → W a ∨ H a = none) : ∀ {L : List (Addr × NestedKey)} {ds : List D}, Mem B H W L ds → Mem B H' W' L ds
  | _, _, .nil => .nil
  | _, _, .cons r h1 h2 m => .cons (Rp.keep k1 k2 _ r) h1 h2 (m.keep k1 k2)
theorem mem_of : ∀ {ds : List D} {vs : List V}, RpAll B H W vs ds → (ds.all fun d => isTupD d && plainK d && decide (d.depth ≤ 8)) = true → ∃ L, vs = L.map (fun p => V.ref p.1) ∧ Mem B H W L ds
  | [], _, r, _ => by cases r; exact ⟨[], rfl, .nil⟩
  | d :: ds, _, r, h => by
    cases r with
    | cons r1 r2 =>
      simp only [List.all_cons, Bool.and_eq_true, decide_eq_true_eq] at h
      obtain ⟨⟨⟨ht, hp⟩, hd⟩, hr⟩ := h
      obtain ⟨L, rfl, m⟩ := mem_of r2 hr
      obtain ⟨k, hk, _, hdp⟩ := nkey_plain d hp
      cases d with
      | tuple xs =>
        cases r1 with
        | tup rd nw l q =>
          rename_i a ys
          exact ⟨(a, k) :: L, rfl, .cons (.tup rd nw l q) hk (by omega) m⟩
      | _ => cases ht
theorem Mem.rp : ∀ {L : List (Addr × NestedKey)} {ds : List D}, Mem B H W L ds → RpAll B H W (L.map fun p => V.ref p.1) ds
  | _, _, .nil => .nil
  | _, _, .cons r _ _ m => .cons r m.rp
theorem Mem.keys : ∀ {L : List (Addr × NestedKey)} {ds : List D}, Mem B H W L ds → L.map (fun p => some p.2) = ds.map nkey
  | _, _, .nil => rfl
  | _, _, .cons _ h _ m => by rw [List.map_cons, List.map_cons, m.keys, h]
theorem Mem.len : ∀ {L : List (Addr × NestedKey)} {ds : List D}, Mem B H W L ds → L.length = ds.length
  | _, _, .nil => rfl
  | _, _, .cons _ _ _ m => by simp [m.len]
theorem Mem.vals : ∀ {L : List (Addr × NestedKey)} {us : List Value}, Vals (L.map fun p => V.ref p.1) us → us = L.map fun p => Value.ref p.1
  | [], _, .nil => rfl
  | p :: L, _, .cons e r => by
    cases (show _ = Value.ref p.1 from e)
    rw [Mem.vals r]
    rfl
theorem Mem.vals' : ∀ (L : List (Addr × NestedKey)), Vals (L.map fun p => V.ref p.1) (L.map fun p => Value.ref p.1)
  | [] => .nil
  | p :: L => .cons rfl (Mem.vals' L)
theorem Mem.at {X : Cx} {pins : List (Addr × Obj)} {σ : L2.St} {s : Shared} (I : Inv X pins σ H s) : ∀ {L : List (Addr × NestedKey)} {ds : List D}, Mem B H W L ds → ∀ p ∈ L, KeyAt X.prog X.w s.heap p.2 p.1
  | _, _, .nil, p, h => nomatch h
  | _, _, .cons r h1 h2 m, p, h => by
    rcases List.mem_cons.mp h with rfl | h
    · exact ⟨Rp.nest I _ r rfl h1, h2⟩
    · exact m.at I p h
theorem Mem.of_mem : ∀ {L : List (Addr × NestedKey)} {ds : List D}, Mem B H W L ds → ∀ p ∈ L, ∃ d ∈ ds, Rp B H W (.ref p.1) d ∧ nkey d = some p.2 ∧ p.2.depth ≤ 8
  | _, _, .nil, p, h => nomatch h
  | _, _, .cons r h1 h2 m, p, h => by
    rcases List.mem_cons.mp h with rfl | h
    · exact ⟨_, List.mem_cons_self, r, h1, h2⟩
    · obtain ⟨d, hd, q⟩ := m.of_mem p h
      exact ⟨d, List.mem_cons_of_mem _ hd, q⟩
/-- any part of the members, in any order -/
theorem Mem.sub {L : List (Addr × NestedKey)} {ds : List D} (m : Mem B H W L ds) : ∀ (L' : List (Addr × NestedKey)), (∀ p ∈ L', p ∈ L) → ∃ ds', Mem B H W L' ds' ∧ ∀ d ∈ ds', d ∈ ds
  | [], _ => ⟨[], .nil, fun d h => nomatch h⟩
  | p :: L', h => by
    obtain ⟨ds', m', hs⟩ := m.sub L' fun q hq => h q (List.mem_cons_of_mem _ hq)
    obtain ⟨d, hd, r, h1, h2⟩ := m.of_mem p (h p List.mem_cons_self)
    exact ⟨d :: ds', .cons r h1 h2 m', fun e he => (List.mem_cons.mp he).elim (fun z => z ▸ hd) (hs e)⟩
/-- what a set of them holds: as the first of each -/
theorem got_perm {ks L : List (Addr × NestedKey)} {ds ds' : List D} (m : Mem B H W ks ds) (m' : Mem B H W L ds') (hs : ∀ d ∈ ds', d ∈ ds) (pl : ∀ d ∈ ds, plainK d = true) (nd : (L.map (·.2)).Nodup) (g : GotN ks ks.length L) : ds'.Perm (dedupD ds) := by
  have e1 := m.keys
  have e2 := m'.keys
  have n1 : (ds'.map nkey).Nodup := by
    rw [← e2, show L.map (fun p => some p.2) = (L.map (·.2)).map some by rw [List.map_map]; rfl]
    exact List.pairwise_map.mpr (nd.imp fun h z => h (Option.some.inj z))
  have n2 : (dedupD ds).Nodup := L2.nodup_of_map dedupD_nodup
  have n3 : ds'.Nodup := L2.nodup_of_map n1
  refine (List.perm_ext_iff_of_nodup n3 n2).mpr fun d => ⟨fun h => ?_, fun h => ?_⟩
  · obtain ⟨e, he, hk⟩ := dedupD_key (hs d h)
    rw [nkey_inj (pl d (hs d h)) (pl e (dedupD_mem he)) hk.symm]
    exact he
  · have hd := dedupD_mem h
    have hk : nkey d ∈ ks.map fun p => some p.2 := by rw [e1]; exact List.mem_map.mpr ⟨d, hd, rfl⟩
    obtain ⟨p, hp, hpk⟩ := List.mem_map.mp hk
    have hq := g.all p (by rw [List.take_length]; exact hp)
    obtain ⟨q, hq, e⟩ := List.mem_map.mp hq
    have : nkey d ∈ ds'.map nkey := by
      rw [← e2, ← hpk, ← e]
      exact List.mem_map.mpr ⟨q, hq, rfl⟩
    obtain ⟨d', hd', e'⟩ := List.mem_map.mp this
    rw [← nkey_inj (pl d' (hs d' hd')) (pl d hd) e']
    exact hd'
theorem perm_map_inv {α β : Type} {f : α → β} : ∀ {m vs : List β}, m.Perm vs → ∀ l : List α, m = l.map f → ∃ l' : List α, l'.Perm l ∧ vs = l'.map f := by
  intro m vs p
  induction p with
  | nil => intro l e; exact ⟨l, .refl _, e⟩
  | cons x p ih =>
    intro l e
    cases l with
    | nil => cases e
    | cons y l =>
      rw [List.map_cons] at e
      cases e
      obtain ⟨l', p', rfl⟩ := ih l rfl
      exact ⟨y :: l', p'.cons y, rfl⟩
  | swap x y m =>
    intro l e
    cases l with
    | nil => cases e
    | cons a l =>
      cases l with
      | nil => cases e
      | cons b l =>
        rw [List.map_cons, List.map_cons] at e
        cases e
        exact ⟨b :: a :: l, .swap _ _ _, rfl⟩
  | trans p1 p2 ih1 ih2 =>
    intro l e
    obtain ⟨l1, q1, e1⟩ := ih1 l e
    obtain ⟨l2, q2, e2⟩ := ih2 l1 e1
    exact ⟨l2, q2.trans q1, e2⟩
end
/-- set(xs) -/
def rSetN (X : Cx) : List V → Hp → VK → Prop := fun xs H Q => ∃ (l : Addr) (ks : List (Addr × NestedKey)) (ds : List D) (W : Wr), xs = [V.ref l] ∧ (SqL X.K H l (ks.map fun p => V.ref p.1) ∨ SqT X.K H l (ks.map fun p => V.ref p.1)) ∧ Mem (BOf X) H W ks ds ∧ ks.length < 64 ∧
  ∀ a L, H a = none → (L.map (·.2)).Nodup → GotN ks ks.length L → Q (.ref a) (upd H a (SetNO X.prog X.w a L))
theorem cr_setN {X : Cx} (hc : X.calm = true) (hu : X.A.units + 64 < cLine) : CallR X (.type "set") (rSetN X) := by
  intro pins s σ H xs us Q I r h
  obtain ⟨l, ks, ds, W, rfl, hl, hm, hf, q⟩ := h
  rw [Vals.ref1 r]
  have hn : H s.heap.objs.size = none := I.hok.fresh (Nat.le_refl _)
  have key : ∀ (T : String) (its : List Value), s.TypeIs (.ref l) T → isSubtype (.type T) (.type "set") = pure false → isSubtype (.type T) (.type "frozenset") = pure false → (Value.type T == Value.type "dict") = false → Iters X.prog X.w l its.toArray s.heap → Vals (ks.map fun p => V.ref p.1) its →
      wpAny (model X.prog X.w) X.A (call (.type "set") [.ref l]) (EP X pins σ Q) X.xe s := fun T its hT h1 h2 h3 hi rv => by
    refine call_setN (P := X.prog) (w := X.w) ks (I.ok.hd hc) hT h1 h2 h3 hi (by simpa using Mem.vals rv) (hm.at I) hf (by omega) fun h' tk L es ep t R g k => ?_
    exact ⟨.ref s.heap.objs.size, upd H s.heap.objs.size (SetNO X.prog X.w s.heap.objs.size L), I.laid (t' := tk) k (Nat.le_refl _) (setNO_new R.n0), rfl, q _ L hn R.nd g⟩
  rcases hl with hl | hl
  · obtain ⟨its, rv, pl, hz⟩ := I.list hl
    exact key "list" its pl.isList.typeIs PySem.F.sub_list_set PySem.F.sub_list_frozenset (by decide) (iters_list pl.isList) rv
  · obtain ⟨its, rv, pl, hz⟩ := I.tuple hl
    exact key "tuple" its pl.typeIs PySem.F.sub_tuple_set PySem.F.sub_tuple_frozenset (by decide) (iters_tup pl) rv
/-- len(set) -/
def rLenN (X : Cx) : List V → Hp → VK → Prop := fun vs H Q => ∃ a L, vs = [V.ref a] ∧ H a = some (SetNO X.prog X.w a L) ∧ Q (.int L.length) H
theorem cr_lenN {X : Cx} : CallR X (.builtin "len") (rLenN X) := by
  intro pins s σ H vs us Q I r h
  obtain ⟨a, L, rfl, ha, q⟩ := h
  have R0 : SetN0 X.prog X.w s.heap a L := (I.hok a _ ha).1
  obtain ⟨es, ep, t, ⟨o, ho, hex, hd⟩, h2, h3, h4, h5, h6, h7⟩ := R0.ex
  rw [Vals.ref1 r]
  have hsz := rowsN_size h2
  refine call_len_set ho hex hd (tab_fits h3 hsz (by omega)) (by rw [hsz]; omega) ?_
  exact ⟨.int L.length, H, I.tok _, ⟨_, by rw [hsz]⟩, q⟩
end PD

set_option Elab.async false
set_option linter.all false
set_option maxRecDepth 100000
set_option maxHeartbeats 4000000
/-! PDsg: sorted(set(xs)), len(set(xs)) as expressions. -/
namespace PD
open PySem PySem.Spec PyProof.Rows L2

/-- list.sort of a list that was just made of data -/
theorem sort_data {prog : Program} {w : World} {A : Around} {E : Value → Shared → Prop} {s : Shared} {a : Addr} {vs : List Value} {ds : List D} {n : Nat} {Q : Value → Shared → Prop} (ho : s.heap.get? a = some (seqObj "list" vs.toArray n)) (hL : vs.length ≤ sizeLine)
    (hr : PySem.W.EachIs (fun v d => ∃ as, Reads (PySem.W.sortingHeap s.heap a vs) v d as) vs ds) (ok : sortOk ds = true) (hu : A.units + 66 < cLine)
    (h : Q .none { s with heap := sortedHeap s.heap a vs (PySem.W.sortVals (PySem.W.dataKind (PySem.W.sortingHeap s.heap a vs) ds) false vs vs).toArray }) :
    wpAny (model prog w) A (call (.builtin "list.sort") [.ref a]) Q E s := by
  unfold sortOk at ok
  simp only [Bool.and_eq_true, List.all_eq_true, Bool.or_eq_true] at ok
  obtain ⟨⟨shp, alk⟩, ht⟩ := ok
  have dpt : ∀ d ∈ ds, d.depth ≤ 64 := fun d hd => of_decide_eq_true (Bool.and_eq_true_iff.mp (shp d hd)).2
  have S : PySem.W.SortsAt prog w A.in1 { s with heap := PySem.W.sortingHeap s.heap a vs } (PySem.W.dataKind (PySem.W.sortingHeap s.heap a vs) ds) vs := by
    refine PySem.W.SortsAt.data hr (fun d hd d' hd' => alk d hd d' hd') ?_ fun d hd => ?_
    · rcases ht with ht | ht
      · left
        intro d hd
        have := ht d hd
        cases d with
        | tuple xs =>
          cases xs with
          | nil => cases this
          | cons x r => exact ⟨x, r, rfl⟩
        | _ => cases this
      · right
        intro d hd
        have := ht d hd
        refine ⟨fun e => ?_, fun xs e => ?_⟩
        · subst e; cases this
        · subst e; cases this
    · have := dpt d hd
      simp only [Around.in1_units]
      omega
  refine wpAny_call_entry slot_list_sort ⟨_, ho, rfl⟩ entry_list_sort ?_ (args_list_sort _)
  exact wpAny_mono (PySem.W.list_sort_vals (P := fun f s' => f = .done (.ret .none) ∧ Q .none s') ho S hL ⟨rfl, h⟩) (fun f s' hf => by
    obtain ⟨rfl, hq⟩ := hf
    exact ⟨_, rfl, hq⟩) fun _ _ e => e
/-- sorted(set) -/
def rSortedN (X : Cx) : List V → Hp → VK → Prop := fun vs H Q => ∃ (a : Addr) (L : List (Addr × NestedKey)) (ds : List D) (W : Wr), vs = [V.ref a] ∧ H a = some (SetNO X.prog X.w a L) ∧ Mem (BOf X) H W L ds ∧ sortOk ds = true ∧
  ∀ (zs : List V) (ds' : List D) p, ds'.Perm ds → RpAll (BOf X) H W zs (ds'.mergeSort dleD) → H p = none → Q (.ref p) (upd H p (.lst zs))
theorem sortOk_perm {ds ds' : List D} (p : ds'.Perm ds) (h : sortOk ds = true) : sortOk ds' = true := by
  unfold sortOk at h ⊢
  simp only [Bool.and_eq_true, List.all_eq_true, Bool.or_eq_true] at h ⊢
  obtain ⟨⟨h1, h2⟩, h3⟩ := h
  refine ⟨⟨fun d hd => h1 d (p.mem_iff.mp hd), fun d hd e he => h2 d (p.mem_iff.mp hd) e (p.mem_iff.mp he)⟩, ?_⟩
  rcases h3 with h3 | h3
  · exact .inl fun d hd => h3 d (p.mem_iff.mp hd)
  · exact .inr fun d hd => h3 d (p.mem_iff.mp hd)
theorem cr_sortedN {X : Cx} (hc : X.calm = true) (hu : X.A.units + 70 < cLine) : CallR X (.builtin "sorted") (rSortedN X) := by
  intro pins s σ H vs us Q I r h
  obtain ⟨a, L, ds, W, rfl, ha, hm, ok, q⟩ := h
  have R0 : SetN0 X.prog X.w s.heap a L := (I.hok a _ ha).1
  obtain ⟨es, ep, t, ⟨o, ho, hex, hd⟩, h2, h3, h4, h5, h6, hfew⟩ := R0.ex
  have hsz := rowsN_size h2
  rw [Vals.ref1 r]
  refine Calls.call_function_entry kind_sorted plain_sorted entry_sorted (args_sorted1 _) ?_
  unfold Builtin.«sorted»
  refine wpAny_bind (m := checkCount "sorted" 1 1 _) (wpAny_pure ?_)
  refine wpAny_bind (collect_set (A := X.A.in1) (by simp [I.ok.hd hc]) ⟨o, ho, hex.1, hd⟩ (tab_fits h3 hsz (by omega)) (by unfold scanBound; omega) h3.ris h5 fun s1 vs k1 hz g1 o1 pm => ?_)
  have hes : es.toList.map (·.2) = L.map fun q => Value.ref q.1 := by
    rw [h2]
    unfold rowsN
    rw [List.map_map]
    rfl
  rw [hes] at pm
  obtain ⟨L', pL, rfl⟩ := perm_map_inv pm.symm L rfl
  obtain ⟨ds', m', hs'⟩ := hm.sub L' fun p hp => pL.mem_iff.mp hp
  have pd : ds'.Perm ds := by
    have e1 := hm.keys
    have e2 := m'.keys
    have nk : (L.map fun p => some p.2).Nodup := by
      rw [show L.map (fun p => some p.2) = (L.map (·.2)).map some by rw [List.map_map]; rfl]
      exact List.pairwise_map.mpr (h4.imp fun h z => h (Option.some.inj z))
    have n1 : (ds.map nkey).Nodup := by rw [← e1]; exact nk
    have n2 : (ds'.map nkey).Nodup := by rw [← e2]; exact (pL.map _).nodup_iff.mpr nk
    refine (List.perm_ext_iff_of_nodup (L2.nodup_of_map n2) (L2.nodup_of_map n1)).mpr fun d => ⟨hs' d, fun hd' => ?_⟩
    have hk : nkey d ∈ L.map fun p => some p.2 := by rw [e1]; exact List.mem_map.mpr ⟨d, hd', rfl⟩
    have hk2 : nkey d ∈ ds'.map nkey := by rw [← e2]; exact (pL.map _).mem_iff.mpr hk
    obtain ⟨d', hd2, e⟩ := List.mem_map.mp hk2
    have : d' = d := by
      -- two members with one key
      have key : ∀ {l : List D}, (l.map nkey).Nodup → ∀ x ∈ l, ∀ y ∈ l, nkey x = nkey y → x = y := by
        intro l
        induction l with
        | nil => intro _ x hx; cases hx
        | cons z l ih =>
          intro hn x hx y hy he
          rw [List.map_cons, List.nodup_cons] at hn
          rcases List.mem_cons.mp hx with ex | hx' <;> rcases List.mem_cons.mp hy with ey | hy'
          · rw [ex, ey]
          · exact absurd (List.mem_map.mpr ⟨y, hy', by rw [← he, ex]⟩) hn.1
          · exact absurd (List.mem_map.mpr ⟨x, hx', by rw [he, ey]⟩) hn.1
          · exact ih hn.2 x hx' y hy' he
      exact key n1 d' (hs' d' hd2) d hd' e
    rw [← this]; exact hd2
  have ok' := sortOk_perm pd ok
  have lay : ∀ d ∈ ds', d.canLay0 = true := fun d hd => by
    unfold sortOk at ok'
    simp only [Bool.and_eq_true, List.all_eq_true] at ok'
    exact SeqAt.canLay_of_shaped (ok'.1.1 d hd)
  have hvl : (L'.map fun p => Value.ref p.1).length < 64 := by rw [List.length_map, pL.length_eq]; exact hfew
  have hsl : (L'.map fun p => Value.ref p.1).length ≤ sizeLine := by rw [sizeLine_eq]; omega
  refine wpAny_bind (wpAny_newList ?_ hsl)
  generalize hvs : L'.map (fun p => Value.ref p.1) = vs at *
  have hoL : (s1.heap.push (seqObj "list" vs.toArray 0)).get? s1.heap.objs.size = some (seqObj "list" vs.toArray 0) := Heap.get?_push_size _ rfl
  have kS : ∀ b o, s.heap.get? b = some o → (PySem.W.sortingHeap (s1.heap.push (seqObj "list" vs.toArray 0)) s1.heap.objs.size vs).get? b = some o := fun b o e =>
    PySem.W.sortingHeap_old (Nat.ne_of_lt (Heap.lt_size (k1 b o e))) (Heap.get?_push_of_some _ (k1 b o e))
  have rp := m'.rp
  have rv : Vals (L'.map fun p => V.ref p.1) vs := by rw [← hvs]; exact Mem.vals' L'
  have reads : PySem.W.EachIs (fun v d => ∃ as, Reads (PySem.W.sortingHeap (s1.heap.push (seqObj "list" vs.toArray 0)) s1.heap.objs.size vs) v d as) vs ds' := by
    have go : ∀ {ys : List V} {es : List D} {us : List Value}, (∀ d ∈ es, d.canLay0 = true) → RpAll (BOf X) H W ys es → Vals ys us → PySem.W.EachIs (fun v d => ∃ as, Reads (PySem.W.sortingHeap (s1.heap.push (seqObj "list" vs.toArray 0)) s1.heap.objs.size vs) v d as) us es := by
      intro ys es us hl
      induction es generalizing ys us with
      | nil => intro h r; cases h; cases r; exact .nil
      | cons d es ih =>
        intro h r
        cases h with
        | cons a b =>
          cases r with
          | cons r1 r2 =>
            obtain ⟨as, e⟩ := Dp.reads I d _ _ (Rp.dp d (hl d List.mem_cons_self) a) r1
            exact .cons ⟨as, Reads.keeps kS e⟩ (ih (fun d hd => hl d (List.mem_cons_of_mem _ hd)) b r2)
    exact go lay rp rv
  refine wpAny_bind (wpAny_holding (sort_data (s := { s1 with heap := s1.heap.push (seqObj "list" vs.toArray 0) }) hoL hsl reads ok' (by simp only [Around.in1_units]; omega) ?_))
  have ok2 := ok'
  unfold sortOk at ok2
  simp only [Bool.and_eq_true, List.all_eq_true, Bool.or_eq_true] at ok2
  obtain ⟨⟨shp, alk⟩, ht⟩ := ok2
  have ep := PySem.W.sortVals_each (κ := PySem.W.dataKind (PySem.W.sortingHeap (s1.heap.push (seqObj "list" vs.toArray 0)) s1.heap.objs.size vs) ds') (rev := false) (R := fun u (p : V × D) => RelV p.1 u) (ks := vs) (vs := vs) (bs := (L'.map fun p => V.ref p.1).zip ds') (fun p => PySem.W.keyToks p.2) (each_of rp rv) ?_
  · generalize hP : ((L'.map fun p => V.ref p.1).zip ds').mergeSort _ = ps at ep
    have hperm : ps.Perm ((L'.map fun p => V.ref p.1).zip ds') := by rw [← hP]; exact List.mergeSort_perm _ _
    have rp2 : RpAll (BOf X) H W (ps.map (·.1)) (ps.map (·.2)) := rp_of_pairs fun p hp => zip_rp rp p (hperm.mem_iff.mp hp)
    have e2 : ps.map (·.2) = ds'.mergeSort dleD := by
      rw [← hP]
      have := PySem.W.sort_maps (fun p : V × D => p.2) (r := PySem.W.sortLe (PySem.W.dataKind (PySem.W.sortingHeap (s1.heap.push (seqObj "list" vs.toArray 0)) s1.heap.objs.size vs) ds').toKeyOrd false fun p : V × D => PySem.W.keyToks p.2) (s := dleD) (l := (L'.map fun p => V.ref p.1).zip ds') (fun a _ b _ => rfl)
      rw [this, zip_snd rp]
    rw [e2] at rp2
    have vals := EachIs.paired ep fun u p h => h
    generalize PySem.W.sortVals _ _ _ _ = outs at vals ep
    obtain ⟨c, hcc⟩ := sortedHeap_at (vs := vs) (out := outs.toArray) hoL
    have hn : H s1.heap.objs.size = none := I.hok.fresh hz
    have keep : ∀ b o, s.heap.get? b = some o → (sortedHeap (s1.heap.push (seqObj "list" vs.toArray 0)) s1.heap.objs.size vs outs.toArray).get? b = some o := fun b u e => by
      have q := k1 b u e
      have hlt := Heap.lt_size q
      rw [sortedHeap_old (Nat.ne_of_lt hlt) (by rw [size_push']; exact Nat.lt_succ_of_lt hlt)]
      exact Heap.get?_push_of_some _ q
    have hlen : (ps.map (·.1)).length ≤ sizeLine := by
      rw [List.length_map, hperm.length_eq, List.length_zip, List.length_map, sizeLine_eq, pL.length_eq]
      omega
    obtain ⟨h1, gg, dd, tt, oo⟩ := s1
    have eg : gg = s.gens := g1
    have eo : oo = s.os := o1
    subst eg eo
    refine wpAny_pure ⟨_, rfl, ?_⟩
    have J : Inv X pins σ (upd H h1.objs.size (.lst (ps.map (·.1)))) { s with heap := sortedHeap (h1.push (seqObj "list" vs.toArray 0)) h1.objs.size vs outs.toArray, gens := s.gens, drawn := dd, toks := tt } :=
      I.call (ch := []) (Un.laid keep hz hn) (I.hok.laid keep hz ⟨hlen, outs, c, vals, hcc⟩) I.bare (fun _ z => nomatch z)
    exact ⟨.ref h1.objs.size, _, J, rfl, q _ ds' _ pd rp2 hn⟩
  · have go : ∀ {us : List Value} {ys : List V} {es : List D}, (∀ d ∈ es, d ∈ ds') → ys.length = es.length → PySem.W.EachIs (fun v d => ∃ as, Reads (PySem.W.sortingHeap (s1.heap.push (seqObj "list" vs.toArray 0)) s1.heap.objs.size vs) v d as) us es →
        PySem.W.EachIs (fun v (b : V × D) => (PySem.W.dataKind (PySem.W.sortingHeap (s1.heap.push (seqObj "list" vs.toArray 0)) s1.heap.objs.size vs) ds').keyOf v = some (PySem.W.keyToks b.2)) us (ys.zip es) := by
      intro us ys es hm hl e
      induction e generalizing ys with
      | nil => simpa using .nil
      | cons x _ ih =>
        cases ys with
        | nil => simp at hl
        | cons y ys =>
          obtain ⟨as, x⟩ := x
          rw [List.zip_cons_cons]
          exact .cons (PySem.W.dataKind_some (fun d hd d' hd' => alk d hd d' hd') (hm _ List.mem_cons_self) x) (ih (fun d hd => hm d (List.mem_cons_of_mem _ hd)) (by simpa using hl))
    exact go (fun d hd => hd) rp.length reads
end PD

set_option Elab.async false
set_option linter.all false
set_option maxRecDepth 100000
set_option maxHeartbeats 8000000
/-! PDsh: sets of whole numbers; sorted(set(xs)), len(set(xs)). -/
namespace PD
open PySem PySem.Spec PyProof.Rows L2

section
variable {P : Program} {w : World} {A : Around} {E : Value → Shared → Prop} {s : Shared}
theorem call_setI {l : Addr} {T : String} {items : Array Value} (ns : List Int) {Q : Value → Shared → Prop} (hh : A.handled = none) (hTl : s.TypeIs (.ref l) T) (hsls : isSubtype (.type T) (.type "set") = pure false) (hslf : isSubtype (.type T) (.type "frozenset") = pure false)
    (hne : (Value.type T == Value.type "dict") = false) (hit0 : Iters P w l items s.heap) (hit : IntsAre items.toList ns) (hb : ns.length + 1 < scanBound)
    (h : ∀ (h' : Heap) (tk c : Nat), SetR w h' s.heap.objs.size (fun j => decide (j ∈ ns)) c → c ≤ ns.length → (∀ b o, s.heap.get? b = some o → h'.get? b = some o) → Q (.ref s.heap.objs.size) { s with heap := h', toks := tk }) :
    wpAny (model P w) A (call (.type "set") [.ref l]) Q E s := by
  have hisz : items.size = ns.length := by
    have q := IntsAre.length hit
    rw [Array.length_toList] at q
    exact q
  obtain ⟨c, tl, hmro⟩ := F.called_set.mro
  have hmade := F.called_set.made
  have hsub := F.called_set.sub
  refine wpAny_call (codeAny_of_tree ?_)
  show wpAny _ _ (callAny (.type "set") _) _ _ _
  refine wpAny_pure ⟨Code.quiet_builtin _ (by decide +kernel), codeAny_builtin F.entry_type_call ?_⟩
  rw [Around.under_plain (weight_type_call_type "set" [.ref l] []) rfl]
  have h1 := F.called_set.notType
  have h2 := F.called_set.canCreate
  have hct := F.typeCall_set_1 (.ref l)
  repeat (any_goals (first | assumption | wp_step))
  refine codeAny_mono (code_set_led1 (.ref l) (E := E) (Q₁ := fun obj s₁ => obj = .ref s.heap.objs.size ∧ s₁ = { s with heap := s.heap.push (newSetO w) }) ⟨rfl, rfl⟩) fun r s₁ hr => ?_
  cases r with
  | error e => exact hr
  | ok fl =>
    cases fl with
    | ret obj =>
      obtain ⟨rfl, rfl⟩ := hr
      have hS : (s.heap.push (newSetO w)).get? s.heap.objs.size = some (newSetO w) := Heap.get?_push_size _ rfl
      have hT : Shared.TypeIs { s with heap := s.heap.push (newSetO w) } (.ref s.heap.objs.size) "set" := ⟨_, hS, rfl⟩
      have hli := F.called_set.init.lookup
      have hbi := F.called_set.init.bind (.ref s.heap.objs.size)
      repeat (any_goals (first | assumption | wp_step))
      refine codeAny_mono (codeAny_call_builtin (R := wants (fun r s₂ => r = .none ∧ ∃ h' tk c, s₂ = { s with heap := h', toks := tk } ∧ SetR w h' s.heap.objs.size (fun j => decide (j ∈ ns)) c ∧ c ≤ ns.length ∧
          (∀ b o, s.heap.get? b = some o → h'.get? b = some o)) E) F.called_set.init.plain F.entry_set_init (check_set_init_1 hT ?_)) fun r₂ s₂ hr₂ => ?_
      · obtain ⟨ol, hol, hcl⟩ := hTl
        obtain ⟨ocls, odict, odata, oslots⟩ := ol
        simp only at hcl
        subst hcl
        have hol' : (s.heap.push (newSetO w)).get? l = some { cls := .type T, dict := odict, data := odata, slots := oslots } := Heap.get?_push_of_some _ hol
        unfold Builtin.«set.__init__» noKeywords Builtin.Frozenset.updateFrom
        generalize hPI : pyIter = PI
        wp_walk
        subst hPI
        refine hit0 _ _ _ _ (fun b o e => Heap.get?_push_of_some _ e) fun h' hk' hw => ?_
        refine wpAny_bind (wpAny_runValue ?_)
        have hlS : l < s.heap.objs.size := Heap.lt_size hol
        have hh3 : A.in1.in1.in1.handled = none := by simp [hh]
        have hSf : s.heap.objs.size ∉ [(s.heap.push (newSetO w)).objs.size, l] := by
          rw [Heap.size_push]; simp only [List.mem_cons, List.mem_singleton, List.not_mem_nil, or_false, not_or]
          exact ⟨Nat.ne_of_lt (Nat.lt_succ_self _), Nat.ne_of_gt hlS⟩
        have hval : ∀ (i : Nat) (v : Value), items[i]? = some v → ∃ k t, ns[i]? = some k ∧ v = .int k t := fun i v hv => by
          have hi : i < ns.length := by
            have := (Array.getElem?_eq_some_iff.mp hv).1
            omega
          obtain ⟨t, e⟩ := PyProof.Rows.IntsAre.int_at hit i v (by rw [Array.getElem?_toList]; exact hv)
          refine ⟨ns[i], t, List.getElem?_eq_getElem hi, ?_⟩
          rw [e, List.getD_eq_getElem?_getD, List.getElem?_eq_getElem hi]
          rfl
        obtain ⟨St, W, st0⟩ := hw _ hh3
        refine set_update_ints W s.heap.objs.size hSf ns hisz hb hval (items.size - 0) 0 _ (by omega) (Nat.zero_le _) st0 ⟨0, Nat.le_refl 0, setR_new_at (hk' _ _ hS)⟩ ?hR
        case hR =>
          intro s' c' hm hc' hS'
          obtain ⟨h2', g2, d', tk', os'⟩ := s'
          have eg : g2 = s.gens := hm.gens
          have ed : d' = s.drawn := hm.drawn
          have eo : os' = s.os := hm.os
          subst eg; subst ed; subst eo
          show wpAny _ _ _ _ _ _
          refine wpAny_pure ?_
          show wpAny _ _ (ret Value.none) _ _ _
          rw [hisz] at hc'
          refine wpAny_pure ⟨rfl, h2', tk', c', rfl, hS', hc', fun b o e => ?_⟩
          have hb0 : b < s.heap.objs.size := Heap.lt_size e
          refine hm.heap b o ?_ (hk' _ _ (Heap.get?_push_of_some _ e))
          have : (s.heap.push (newSetO w)).objs.size = s.heap.objs.size + 1 := Heap.size_push ..
          simp only [List.mem_cons, List.mem_singleton, List.not_mem_nil, or_false, not_or, this]
          exact ⟨Nat.ne_of_lt hb0, Nat.ne_of_lt (Nat.lt_succ_of_lt hb0)⟩
      · cases r₂ with
        | error e => exact hr₂
        | ok fl₂ =>
          cases fl₂ with
          | ret r =>
            obtain ⟨rfl, h', tk, c, rfl, hS', hc', hk'⟩ := hr₂
            repeat (any_goals (first | assumption | wp_step))
            exact h _ _ _ hS' hc' hk'
          | _ => exact hr₂.elim
    | _ => exact hr.elim
end
theorem intsAre_of : ∀ {ns : List Int} {us : List Value}, Vals (ns.map V.int) us → IntsAre us ns
  | [], _, .nil => .nil
  | n :: ns, _, .cons r t => by
    obtain ⟨k, rfl⟩ := r
    exact .cons n k (intsAre_of t)
/-- set(xs), whole numbers -/
def rSetI (X : Cx) : List V → Hp → VK → Prop := fun xs H Q => ∃ (l : Addr) (ns : List Int), xs = [V.ref l] ∧ (SqL X.K H l (ns.map V.int) ∨ SqT X.K H l (ns.map V.int)) ∧ ns.length < 64 ∧
  ∀ a c, H a = none → c < 64 → Q (.ref a) (upd H a (SetO X.w a (fun j => decide (j ∈ ns)) c))
theorem cr_setI {X : Cx} (hc : X.calm = true) : CallR X (.type "set") (rSetI X) := by
  intro pins s σ H xs us Q I r h
  obtain ⟨l, ns, rfl, hl, hf, q⟩ := h
  rw [Vals.ref1 r]
  have hn : H s.heap.objs.size = none := I.hok.fresh (Nat.le_refl _)
  have key : ∀ (T : String) (its : List Value), s.TypeIs (.ref l) T → isSubtype (.type T) (.type "set") = pure false → isSubtype (.type T) (.type "frozenset") = pure false → (Value.type T == Value.type "dict") = false → Iters X.prog X.w l its.toArray s.heap → Vals (ns.map V.int) its →
      wpAny (model X.prog X.w) X.A (call (.type "set") [.ref l]) (EP X pins σ Q) X.xe s := fun T its hT h1 h2 h3 hi rv => by
    refine call_setI (P := X.prog) (w := X.w) ns (I.ok.hd hc) hT h1 h2 h3 hi (by simpa using intsAre_of rv) (by unfold scanBound; omega) fun h' tk c R hcl k => ?_
    exact ⟨.ref s.heap.objs.size, upd H s.heap.objs.size (SetO X.w s.heap.objs.size (fun j => decide (j ∈ ns)) c), I.laid (t' := tk) k (Nat.le_refl _) (setO_new R), rfl, q _ c hn (by omega)⟩
  rcases hl with hl | hl
  · obtain ⟨its, rv, pl, hz⟩ := I.list hl
    exact key "list" its pl.isList.typeIs PySem.F.sub_list_set PySem.F.sub_list_frozenset (by decide) (iters_list pl.isList) rv
  · obtain ⟨its, rv, pl, hz⟩ := I.tuple hl
    exact key "tuple" its pl.typeIs PySem.F.sub_tuple_set PySem.F.sub_tuple_frozenset (by decide) (iters_tup pl) rv
end PD

set_option Elab.async false
set_option linter.all false
set_option maxRecDepth 100000
set_option maxHeartbeats 4000000
/-! PDsi: sorted(set(xs)), len(set(xs)) as expressions. -/
namespace PD
open PySem PySem.Spec PyProof.Rows L2 RZ

def memOk (ds : List D) : Bool := setOk ds || ((intsD ds).isSome && decide (ds.length < 64))
def setItems : D → Option (List D)
  | .list ds => if memOk ds = true then some ds else none
  | .tuple ds => if memOk ds = true then some ds else none
  | _ => none
def ssetD : List D → Option D
  | [d] => (setItems d).bind fun ds => if sortOk (dedupD ds) = true then some (.list ((dedupD ds).mergeSort dleD)) else none
  | _ => none
def lsetD : List D → Option D
  | [d] => (setItems d).map fun ds => .int ((dedupD ds).length : Nat)
  | _ => none
theorem setItems_at {d : D} {ds : List D} {B : Bs} {H : Hp} {W : Wr} {v : V} (h : setItems d = some ds) (r : Rq B H W v d) : memOk ds = true ∧ ∃ l vs, v = .ref l ∧ (SqL B.2.2 H l vs ∨ SqT B.2.2 H l vs) ∧ RpAll B H W vs ds ∧ ds.length ≤ lim := by
  unfold setItems at h
  cases d with
  | list es =>
    simp only at h
    split at h
    · rename_i ok
      cases h
      obtain ⟨a, xs, rfl, rd, hl, q⟩ := rq_list r
      exact ⟨ok, a, xs, rfl, .inl rd.sq, q, hl⟩
    · cases h
  | tuple es =>
    simp only at h
    split at h
    · rename_i ok
      cases h
      obtain ⟨a, xs, rfl, rd, nw, hl, q⟩ := rq_tup r
      exact ⟨ok, a, xs, rfl, .inr (.inl rd), q, hl⟩
    · cases h
  | _ => cases h
theorem plainK_int (n : Int) : plainK (.int n) = true := rfl
/-- whole numbers, rising, the same members: as the first of each, sorted -/
theorem ints_set {ns ns' : List Int} (h1 : ns'.Pairwise (· < ·)) (h2 : ∀ k : Int, k ∈ ns' ↔ k ∈ ns) : ns'.map PyData.int = (dedupD (ns.map PyData.int)).mergeSort dleD ∧ ns'.length = (dedupD (ns.map PyData.int)).length := by
  have inj : ∀ x y : Int, nkey (.int x) = nkey (.int y) → x = y := fun x y h => by simpa [nkey] using h
  have nd1 : (ns'.map PyData.int).Nodup := List.pairwise_map.mpr (h1.imp fun h z => by cases z; omega)
  have nd2 : (dedupD (ns.map PyData.int)).Nodup := L2.nodup_of_map dedupD_nodup
  have p : (ns'.map PyData.int).Perm (dedupD (ns.map PyData.int)) := by
    refine (List.perm_ext_iff_of_nodup nd1 nd2).mpr fun d => ⟨fun h => ?_, fun h => ?_⟩
    · obtain ⟨k, hk, rfl⟩ := List.mem_map.mp h
      obtain ⟨e, he, hke⟩ := dedupD_key (List.mem_map.mpr ⟨k, (h2 k).mp hk, rfl⟩ : PyData.int k ∈ ns.map PyData.int)
      obtain ⟨j, _, rfl⟩ := List.mem_map.mp (dedupD_mem he)
      rw [inj _ _ hke] at he
      exact he
    · obtain ⟨k, hk, rfl⟩ := List.mem_map.mp (dedupD_mem h)
      exact List.mem_map.mpr ⟨k, (h2 k).mpr hk, rfl⟩
  refine ⟨?_, by have := p.length_eq; rwa [List.length_map] at this⟩
  refine eq_of_perm_le (le := fun a b => dleD a b = true) (p.trans (List.mergeSort_perm _ dleD).symm) ?_ (List.pairwise_mergeSort dle_trans' dle_total' _) fun a ha b hb q1 q2 => ?_
  · rw [List.pairwise_map]
    refine h1.imp fun {a b} h => ?_
    unfold dleD
    rw [PySem.W.dataLt_int]
    simp; omega
  · obtain ⟨i, _, rfl⟩ := List.mem_map.mp ha
    obtain ⟨j, _, rfl⟩ := List.mem_map.mp hb
    exact dle_anti rfl rfl rfl q1 q2
section
variable {X : Cx} {G : Sg} {W : WX} {e : Expr} {f : Env → Res Arg} {p1 p2 pos q : Pos}
/-- set(xs): the set, and what it holds -/
theorem eOpN_one {σ : L2.St} {ρ : Env} {H : Hp} {F : Nat → List Addr} {g : List D → Option D} {K : D → Env → Hp → (Nat → List Addr) → List Addr → Prop} (h : Go G W σ (eOpN g (aCons f aNil) ρ) H F K) :
    Go G W σ (bnd (f ρ) fun a ρ1 => match derefs ρ1 [a] with | some ds => ofO (g ds) ρ1 | none => .err) H F K := by
  unfold eOpN aCons aNil at h
  cases q1 : f ρ with
  | err => rw [q1] at h; exact h
  | exc _ _ => rw [q1] at h; exact h
  | ok a1 ρ1 => rw [q1] at h; exact h
theorem dx_sset (hB : G.B = BOf X) (hc : X.calm = true) (hu : X.A.units + 70 < cLine) (hg : Gl X "sorted") (hm : X.mg "sorted" = none) (hg2 : Gl X "set") (hm2 : X.mg "set" = none) (hv : bootBuiltins "sorted" = some (.builtin "sorted")) (hv2 : bootBuiltins "set" = some (.type "set")) (ha : DO X G W e f)
    (he : starEach [e] X.env = (false, eval e X.env) :: starEach [] X.env := by rfl) (hpl : (backTo q (starEach [] X.env)).any (·.1) = false := by rfl)
    (he' : starEach [.Call (.Name "set" p2) [e] [] q] X.env = (false, eval (.Call (.Name "set" p2) [e] [] q) X.env) :: starEach [] X.env := by rfl) (hpl' : (backTo pos (starEach [] X.env)).any (·.1) = false := by rfl) :
    DX X G W (.lst .fz) (.Call (.Name "sorted" p1) [.Call (.Name "set" p2) [e] [] q] [] pos) (eOpN ssetD (aCons f aNil)) :=
  PE.imp (pe_callB ((cr_sortedN hc hu).or (cr_sortedSet hc)) hg hm hv (pa_cons (pe_callTy ((cr_setN hc (by omega)).or (cr_setI hc)) hg2 hm2 hv2 (pa_cons ha pa_nil he) (by decide) (by decide) he hpl) pa_nil he') (by decide) (by decide) he' hpl') fun σ H Q ⟨F, ρ, E, g⟩ => by
    refine tO_bind E (eOpN_one g) fun v a1 ρ1 H1 F1 E1 o1 g1 _ => ?_
    unfold derefs at g1
    cases e1 : deref ρ1 a1 with
    | none => rw [e1] at g1; exact g1.elim
    | some d =>
      rw [e1] at g1
      simp only [derefs, Option.bind_some, Option.map_some, ssetD] at g1
      cases e2 : setItems d with
      | none => rw [e2] at g1; exact g1.elim
      | some ds =>
        rw [e2] at g1
        simp only [Option.bind_some] at g1
        split at g1
        · rename_i ok
          obtain ⟨mk, l, vs, rfl, sq, rp, hl⟩ := setItems_at e2 (o1.rq E1 e1)
          have sq' : SqL X.K H1 l vs ∨ SqT X.K H1 l vs := by rw [hB] at sq; exact sq
          have rp' : RpAll (BOf X) H1 (Wof F1 G.O) vs ds := hB ▸ rp
          have hdl : (dedupD ds).length ≤ lim := Nat.le_trans (dedupD_len ds) hl
          -- behind the set
          have fin : ∀ (s : Addr) (o : HO), H1 s = none → ∀ (zs : List V) (p : Addr), RpAll (BOf X) (upd H1 s o) (Wof F1 G.O) zs ((dedupD ds).mergeSort dleD) → upd H1 s o p = none → Q (.ref p) (upd (upd H1 s o) p (.lst zs)) := fun s o hs zs p rz hp => by
            have ex : Ext H1 (upd H1 s o) := ext_upd hs
            refine VOut.lst (B := G.B) (W := Wof F1 G.O) (fun v H' Fl k hn nd o => ?_) hp (hB ▸ rz) (by rw [List.length_mergeSort]; exact hdl)
            have g2 := Go.after g1 (Evo.of_ext (F := F1) ex)
            obtain ⟨h3, o'⟩ := g2.fin (E1.ext ex) k hn nd o
            exact h3 v o'
          unfold memOk at mk
          rw [Bool.or_eq_true] at mk
          rcases mk with mk | mk
          · unfold setOk at mk
            rw [Bool.and_eq_true, decide_eq_true_eq] at mk
            obtain ⟨ma, ml⟩ := mk
            obtain ⟨ks, rfl, m⟩ := mem_of rp' ma
            have pl : ∀ d ∈ ds, plainK d = true := fun d hd => by
              have := List.all_eq_true.mp ma d hd
              simp only [Bool.and_eq_true] at this
              exact this.1.2
            refine .inl ⟨l, ks, ds, Wof F1 G.O, rfl, sq', m, by rw [m.len]; exact ml, fun s L hs nd gt => ?_⟩
            have ex : Ext H1 (upd H1 s (SetNO X.prog X.w s L)) := ext_upd hs
            obtain ⟨ds', m', hs'⟩ := m.sub L fun p hp => List.mem_of_mem_take (gt.sub p hp)
            have m2 := m'.keep (W' := Wof F1 G.O) (fun a o e _ => ex a o e) (fun a h => .inl h)
            have pm := got_perm m m' hs' pl nd gt
            refine .inl ⟨s, L, ds', Wof F1 G.O, rfl, upd_same, m2, sortOk_perm pm ok, fun zs ds2 p pd rz hp => ?_⟩
            refine fin s _ hs zs p ?_ hp
            rw [← sort_perm (pd.trans pm) (fun d hd => pl d (dedupD_mem hd)) fun a ha b hb => ?_]
            · exact rz
            · unfold sortOk at ok
              simp only [Bool.and_eq_true, List.all_eq_true] at ok
              exact ok.1.2 a ha b hb
          · rw [Bool.and_eq_true, decide_eq_true_eq] at mk
            obtain ⟨mi, ml⟩ := mk
            cases e3 : intsD ds with
            | none => rw [e3] at mi; cases mi
            | some ns =>
              have := intsD_eq e3
              subst this
              have hv := RpAll.toInts rp'
              subst hv
              rw [List.length_map] at ml
              refine .inr ⟨l, ns, rfl, sq', ml, fun s c hs hc => ?_⟩
              refine .inr ⟨s, _, c, rfl, upd_same, hc, fun ns' p hr hm _ hp => ?_⟩
              refine fin s _ hs _ p ?_ hp
              rw [← (ints_set hr fun k => by rw [hm k]; simp).1]
              exact rp_ints ns'
        · exact g1.elim
end
end PD

set_option Elab.async false
set_option linter.all false
set_option maxRecDepth 100000
set_option maxHeartbeats 4000000
/-! PDsj: len(set(xs)) as an expression. -/
namespace PD
open PySem PySem.Spec PyProof.Rows L2 RZ

def rLenI (X : Cx) : List V → Hp → VK → Prop := fun vs H Q => ∃ (a : Addr) (S : Int → Bool) (n : Nat), vs = [V.ref a] ∧ H a = some (SetO X.w a S n) ∧ ∀ l : List Int, l.Nodup → (∀ k, k ∈ l ↔ S k = true) → l.length = n → Q (.int n) H
theorem cr_lenI {X : Cx} : CallR X (.builtin "len") (rLenI X) := by
  intro pins s σ H vs us Q I r h
  obtain ⟨a, S, n, rfl, ha, q⟩ := h
  obtain ⟨o, es, ep, t, ho, hex, hd, g, nd, hm, hb, hf, hn, hr, hl⟩ := setO_get I ha
  rw [Vals.ref1 r]
  have hb' : es.size < 4096 := hb
  refine call_len_set ho hex hd hf (by omega) ?_
  rw [hn]
  exact ⟨.int n, H, I.tok _, ⟨_, rfl⟩, q (es.toList.map keyOf) nd (fun k => (hm k).symm) (by rw [List.length_map, Array.length_toList, hn])⟩
theorem len_perm {ns l : List Int} (nd : l.Nodup) (h : ∀ k : Int, k ∈ l ↔ k ∈ ns) : l.length = (dedupD (ns.map PyData.int)).length := by
  have inj : ∀ x y : Int, nkey (.int x) = nkey (.int y) → x = y := fun x y h => by simpa [nkey] using h
  have nd1 : (l.map PyData.int).Nodup := List.pairwise_map.mpr (nd.imp fun h z => by cases z; exact h rfl)
  have nd2 : (dedupD (ns.map PyData.int)).Nodup := L2.nodup_of_map dedupD_nodup
  have p : (l.map PyData.int).Perm (dedupD (ns.map PyData.int)) := by
    refine (List.perm_ext_iff_of_nodup nd1 nd2).mpr fun d => ⟨fun h' => ?_, fun h' => ?_⟩
    · obtain ⟨k, hk, rfl⟩ := List.mem_map.mp h'
      obtain ⟨e, he, hke⟩ := dedupD_key (List.mem_map.mpr ⟨k, (h k).mp hk, rfl⟩ : PyData.int k ∈ ns.map PyData.int)
      obtain ⟨j, _, rfl⟩ := List.mem_map.mp (dedupD_mem he)
      rw [inj _ _ hke] at he
      exact he
    · obtain ⟨k, hk, rfl⟩ := List.mem_map.mp (dedupD_mem h')
      exact List.mem_map.mpr ⟨k, (h k).mpr hk, rfl⟩
  have := p.length_eq
  rwa [List.length_map] at this
section
variable {X : Cx} {G : Sg} {W : WX} {e : Expr} {f : Env → Res Arg} {p1 p2 pos q : Pos}
theorem dx_lset (hB : G.B = BOf X) (hc : X.calm = true) (hu : X.A.units + 70 < cLine) (hg : Gl X "len") (hm : X.mg "len" = none) (hg2 : Gl X "set") (hm2 : X.mg "set" = none) (hv : bootBuiltins "len" = some (.builtin "len")) (hv2 : bootBuiltins "set" = some (.type "set")) (ha : DO X G W e f)
    (he : starEach [e] X.env = (false, eval e X.env) :: starEach [] X.env := by rfl) (hpl : (backTo q (starEach [] X.env)).any (·.1) = false := by rfl)
    (he' : starEach [.Call (.Name "set" p2) [e] [] q] X.env = (false, eval (.Call (.Name "set" p2) [e] [] q) X.env) :: starEach [] X.env := by rfl) (hpl' : (backTo pos (starEach [] X.env)).any (·.1) = false := by rfl) :
    DX X G W .fz (.Call (.Name "len" p1) [.Call (.Name "set" p2) [e] [] q] [] pos) (eOpN lsetD (aCons f aNil)) :=
  PE.imp (pe_callB (cr_lenN.or cr_lenI) hg hm hv (pa_cons (pe_callTy ((cr_setN hc (by omega)).or (cr_setI hc)) hg2 hm2 hv2 (pa_cons ha pa_nil he) (by decide) (by decide) he hpl) pa_nil he') (by decide) (by decide) he' hpl') fun σ H Q ⟨F, ρ, E, g⟩ => by
    refine tO_bind E (eOpN_one g) fun v a1 ρ1 H1 F1 E1 o1 g1 _ => ?_
    unfold derefs at g1
    cases e1 : deref ρ1 a1 with
    | none => rw [e1] at g1; exact g1.elim
    | some d =>
      rw [e1] at g1
      simp only [derefs, Option.bind_some, Option.map_some, lsetD] at g1
      cases e2 : setItems d with
      | none => rw [e2] at g1; exact g1.elim
      | some ds =>
        rw [e2] at g1
        simp only [Option.map_some] at g1
        obtain ⟨mk, l, vs, rfl, sq, rp, hl⟩ := setItems_at e2 (o1.rq E1 e1)
        have sq' : SqL X.K H1 l vs ∨ SqT X.K H1 l vs := by rw [hB] at sq; exact sq
        have rp' : RpAll (BOf X) H1 (Wof F1 G.O) vs ds := hB ▸ rp
        have fin : ∀ (s : Addr) (o : HO), H1 s = none → ∀ n : Nat, n = (dedupD ds).length → Q (.int n) (upd H1 s o) := fun s o hs n hn => by
          have ex : Ext H1 (upd H1 s o) := ext_upd hs
          have g2 := Go.after g1 (Evo.of_ext (F := F1) ex)
          rw [hn]
          refine (Go.done g2 (E1.ext ex)) _ (.fz (.int _))
        unfold memOk at mk
        rw [Bool.or_eq_true] at mk
        rcases mk with mk | mk
        · unfold setOk at mk
          rw [Bool.and_eq_true, decide_eq_true_eq] at mk
          obtain ⟨ma, ml⟩ := mk
          obtain ⟨ks, rfl, m⟩ := mem_of rp' ma
          have pl : ∀ d ∈ ds, plainK d = true := fun d hd => by
            have := List.all_eq_true.mp ma d hd
            simp only [Bool.and_eq_true] at this
            exact this.1.2
          refine .inl ⟨l, ks, ds, Wof F1 G.O, rfl, sq', m, by rw [m.len]; exact ml, fun s L hs nd gt => ?_⟩
          obtain ⟨ds', m', hs'⟩ := m.sub L fun p hp => List.mem_of_mem_take (gt.sub p hp)
          have pm := got_perm m m' hs' pl nd gt
          exact .inl ⟨s, L, rfl, upd_same, fin s _ hs _ (by rw [m'.len, pm.length_eq])⟩
        · rw [Bool.and_eq_true, decide_eq_true_eq] at mk
          obtain ⟨mi, ml⟩ := mk
          cases e3 : intsD ds with
          | none => rw [e3] at mi; cases mi
          | some ns =>
            have := intsD_eq e3
            subst this
            have hv := RpAll.toInts rp'
            subst hv
            rw [List.length_map] at ml
            refine .inr ⟨l, ns, rfl, sq', ml, fun s c hs hc => ?_⟩
            exact .inr ⟨s, _, c, rfl, upd_same, fun l nd hl hn => fin s _ hs _ (by rw [← hn]; exact len_perm nd fun k => by rw [hl k]; simp)⟩
end
end PD

set_option Elab.async false
set_option linter.all false
set_option maxRecDepth 100000
set_option maxHeartbeats 4000000
/-! PDta: dicts: by data; the raw operations. -/
namespace PD
open PySem PySem.Spec PyProof.Rows L2

/-! ### by data -/
def simpleK : D → Bool
  | .int _ => true
  | .str _ => true
  | _ => false
def deepOk (d : D) : Bool := match nkey d with
  | some k => decide (k.depth ≤ 8)
  | none => false
def tupK (d : D) : Bool := isTupD d && deepOk d
/-- the key can be asked of a dict with such keys -/
def kindOk (es : List (D × D)) (k : D) : Bool := (simpleK k && es.all fun p => simpleK p.1) || (tupK k && es.all fun p => isTupD p.1)
def lookD (es : List (D × D)) (k : D) : Option D := (es.find? fun p => decide (nkey p.1 = nkey k)).map (·.2)
def putD (es : List (D × D)) (k v : D) : List (D × D) := if (lookD es k).isSome = true then es.map (fun p => if nkey p.1 = nkey k then (p.1, v) else p) else es ++ [(k, v)]
theorem lookD_nil {k : D} : lookD [] k = none := rfl
theorem lookD_pos {p : D × D} {es : List (D × D)} {k : D} (e : nkey p.1 = nkey k) : lookD (p :: es) k = some p.2 := by simp [lookD, List.find?_cons, e]
theorem lookD_neg {p : D × D} {es : List (D × D)} {k : D} (e : ¬ nkey p.1 = nkey k) : lookD (p :: es) k = lookD es k := by simp [lookD, List.find?_cons, e]
theorem putD_length (es : List (D × D)) (k v : D) : (putD es k v).length ≤ es.length + 1 := by
  unfold putD
  split <;> simp
theorem putD_ne (es : List (D × D)) (k v : D) : putD es k v ≠ [] := by
  unfold putD
  split
  · rename_i h
    intro z
    cases es with
    | nil => simp [lookD] at h
    | cons _ _ => simp at z
  · simp
theorem nkey_simple {k : Key} : nkey (keyD k) = some (match k with | .inl i => .num i | .inr x => .text x) := by cases k <;> rfl
theorem keyD_inj {a b : Key} (h : nkey (keyD a) = nkey (keyD b)) : a = b := by
  rw [nkey_simple, nkey_simple] at h
  cases a <;> cases b <;> simp_all
theorem simple_key {d : D} (h : simpleK d = true) : ∃ k, d = keyD k := by
  cases d with
  | int i => exact ⟨.inl i, rfl⟩
  | str x => exact ⟨.inr x, rfl⟩
  | _ => cases h
theorem simple_keyD {k : Key} : simpleK (keyD k) = true := by cases k <;> rfl
section
variable {B : Bs} {H H' : Hp} {W W' : Wr}
theorem RpK.length : ∀ {es : List (D × D)} {kvs : List (Key × V)}, RpK B H W kvs es → kvs.length = es.length
  | [], _, h => by cases h; rfl
  | _ :: _, _, h => by cases h with | cons _ b => simp [RpK.length b]
theorem RpT.length : ∀ {es : List (D × D)} {ks : List TEnt}, RpT B H W ks es → ks.length = es.length
  | [], _, h => by cases h; rfl
  | _ :: _, _, h => by cases h with | cons _ _ _ _ b => simp [RpT.length b]
theorem RpK.look : ∀ {es : List (D × D)} {kvs : List (Key × V)}, RpK B H W kvs es → ∀ k : Key, match valV kvs k with
    | none => lookD es (keyD k) = none
    | some v => ∃ d, lookD es (keyD k) = some d ∧ Rp B H W v d
  | [], _, h, k => by cases h; rfl
  | _ :: _, _, h, k => by
    cases h with
    | cons r b =>
      rename_i es0 k0 v vs d
      by_cases e : k0 = k
      · subst e
        rw [valV_pos (p := (k0, v)) rfl]
        exact ⟨d, lookD_pos rfl, r⟩
      · rw [valV_neg (p := (k0, v)) e]
        have := RpK.look b k
        rw [lookD_neg (p := (keyD k0, d)) fun z => e (keyD_inj z)]
        exact this
theorem RpK.look_some {es : List (D × D)} {kvs : List (Key × V)} (h : RpK B H W kvs es) (k : Key) : (valV kvs k).isSome = (lookD es (keyD k)).isSome := by
  have := h.look k
  cases q : valV kvs k with
  | none => rw [q] at this; rw [this]; rfl
  | some v =>
    rw [q] at this
    obtain ⟨d, e, _⟩ := this
    rw [e]; rfl
theorem RpK.map : ∀ {es : List (D × D)} {kvs : List (Key × V)}, RpK B H W kvs es → ∀ (k : Key) {v : V} {d : D}, Rp B H W v d → RpK B H W (kvs.map fun kv => if kv.1 = k then (kv.1, v) else kv) (es.map fun p => if nkey p.1 = nkey (keyD k) then (p.1, d) else p)
  | [], _, h, k, _, _, _ => by cases h; exact .nil
  | _ :: _, _, h, k, v, d, r => by
    cases h with
    | cons r0 b =>
      rename_i es0 k0 v0 vs d0
      rw [List.map_cons, List.map_cons]
      by_cases e : k0 = k
      · subst e
        simp only [if_true]
        exact .cons r (RpK.map b k0 r)
      · have : ¬ nkey (keyD k0) = nkey (keyD k) := fun z => e (keyD_inj z)
        simp only [if_neg e, if_neg this]
        exact .cons r0 (RpK.map b k r)
theorem RpK.append : ∀ {es : List (D × D)} {kvs : List (Key × V)}, RpK B H W kvs es → ∀ (k : Key) {v : V} {d : D}, Rp B H W v d → RpK B H W (kvs ++ [(k, v)]) (es ++ [(keyD k, d)])
  | [], _, h, k, _, _, r => by cases h; exact .cons r .nil
  | _ :: _, _, h, k, v, d, r => by
    cases h with
    | cons r0 b => exact .cons r0 (RpK.append b k r)
theorem RpK.put {es : List (D × D)} {kvs : List (Key × V)} (h : RpK B H W kvs es) (k : Key) {v : V} {d : D} (r : Rp B H W v d) : RpK B H W (putK kvs k v) (putD es (keyD k) d) := by
  unfold putK putD
  rw [valV_any, h.look_some]
  split
  · exact h.map k r
  · exact h.append k r
def atT (ks : List TEnt) (k : NestedKey) : Option V := (ks.find? fun x => decide (x.1 = k)).map (·.2.2)
theorem atT_pos {p : TEnt} {ks : List TEnt} {k : NestedKey} (e : p.1 = k) : atT (p :: ks) k = some p.2.2 := by simp [atT, List.find?_cons, e]
theorem atT_neg {p : TEnt} {ks : List TEnt} {k : NestedKey} (e : ¬ p.1 = k) : atT (p :: ks) k = atT ks k := by simp [atT, List.find?_cons, e]
def putT (k : NestedKey) (v : V) (x : TEnt) : TEnt := if x.1 = k then (x.1, x.2.1, v) else x
def storeT (ks : List TEnt) (k : NestedKey) (b : Addr) (v : V) : List TEnt := if (atT ks k).isSome then ks.map (putT k v) else ks ++ [(k, b, v)]
theorem RpT.look : ∀ {es : List (D × D)} {ks : List TEnt}, RpT B H W ks es → ∀ {k : NestedKey} {c : D}, nkey c = some k → match atT ks k with
    | none => lookD es c = none
    | some v => ∃ d, lookD es c = some d ∧ Rp B H W v d
  | [], _, h, k, c, _ => by cases h; rfl
  | _ :: _, _, h, k, c, hk => by
    cases h with
    | cons e dp rb r b =>
      rename_i es0 k0 b0 v vs c0 d
      by_cases q : k0 = k
      · subst q
        rw [atT_pos (p := (k0, b0, v)) rfl]
        exact ⟨d, lookD_pos (p := (c0, d)) (by rw [hk]; exact e), r⟩
      · rw [atT_neg (p := (k0, b0, v)) q]
        have := RpT.look b hk
        rw [lookD_neg (p := (c0, d)) (by rw [hk]; show ¬ nkey c0 = some k; rw [e]; intro z; exact q (Option.some.inj z))]
        exact this
theorem RpT.look_some {es : List (D × D)} {ks : List TEnt} (h : RpT B H W ks es) {k : NestedKey} {c : D} (hk : nkey c = some k) : (atT ks k).isSome = (lookD es c).isSome := by
  have := h.look hk
  cases q : atT ks k with
  | none => rw [q] at this; rw [this]; rfl
  | some v =>
    rw [q] at this
    obtain ⟨d, e, _⟩ := this
    rw [e]; rfl
theorem RpT.map : ∀ {es : List (D × D)} {ks : List TEnt}, RpT B H W ks es → ∀ {k : NestedKey} {c : D}, nkey c = some k → ∀ {v : V} {d : D}, Rp B H W v d → RpT B H W (ks.map (putT k v)) (es.map fun p => if nkey p.1 = nkey c then (p.1, d) else p)
  | [], _, h, k, c, _, _, _, _ => by cases h; exact .nil
  | _ :: _, _, h, k, c, hk, v, d, r => by
    cases h with
    | cons e dp rb r0 b =>
      rename_i es0 k0 b0 v0 vs c0 d0
      rw [List.map_cons, List.map_cons]
      by_cases q : k0 = k
      · have q2 : nkey c0 = nkey c := by rw [e, hk, q]
        simp only [putT, if_pos q, if_pos q2]
        exact .cons e dp rb r (RpT.map b hk r)
      · have q2 : ¬ nkey c0 = nkey c := by rw [e, hk]; intro z; exact q (Option.some.inj z)
        simp only [putT, if_neg q, if_neg q2]
        exact .cons e dp rb r0 (RpT.map b hk r)
theorem RpT.append : ∀ {es : List (D × D)} {ks : List TEnt}, RpT B H W ks es → ∀ {k : NestedKey} {c : D} {b : Addr}, nkey c = some k → k.depth ≤ 8 → Rp B H W (.ref b) c → ∀ {v : V} {d : D}, Rp B H W v d → RpT B H W (ks ++ [(k, b, v)]) (es ++ [(c, d)])
  | [], _, h, k, c, b, hk, hd, rb, v, d, r => by cases h; exact .cons hk hd rb r .nil
  | _ :: _, _, h, k, c, b, hk, hd, rb, v, d, r => by
    cases h with
    | cons e dp rb0 r0 t => exact .cons e dp rb0 r0 (RpT.append t hk hd rb r)
theorem RpT.put {es : List (D × D)} {ks : List TEnt} (h : RpT B H W ks es) {k : NestedKey} {c : D} {b : Addr} (hk : nkey c = some k) (hd : k.depth ≤ 8) (rb : Rp B H W (.ref b) c) {v : V} {d : D} (r : Rp B H W v d) : RpT B H W (storeT ks k b v) (putD es c d) := by
  unfold storeT putD
  rw [h.look_some hk]
  split
  · exact h.map hk r
  · exact h.append hk hd rb r
/-! the entries' own values -/
theorem TEs.look {ks : List TEnt} {xs : List (NestedKey × Addr × Value)} (h : TEs ks xs) (k : NestedKey) : RelO (atT ks k) ((atKey xs k).map (·.2)) := by
  induction h with
  | nil => exact True.intro
  | @cons p q ks xs r t ih =>
    by_cases e : p.1 = k
    · rw [atT_pos e, show atKey (q :: xs) k = some q.2 by simp [atKey, List.find?_cons, ← r.1, e]]
      exact r.2.2
    · rw [atT_neg e, show atKey (q :: xs) k = atKey xs k by simp [atKey, List.find?_cons, ← r.1, e]]
      exact ih
theorem TEs.map {ks : List TEnt} {xs : List (NestedKey × Addr × Value)} (h : TEs ks xs) (k : NestedKey) {v : V} {u : Value} (rv : RelV v u) : TEs (ks.map (putT k v)) (xs.map (putAt k u)) := by
  induction h with
  | nil => exact .nil
  | @cons p q ks xs r t ih =>
    rw [List.map_cons, List.map_cons]
    refine .cons ?_ ih
    unfold putT putAt
    by_cases e : p.1 = k
    · rw [if_pos e, if_pos (r.1 ▸ e)]
      exact ⟨r.1, r.2.1, rv⟩
    · rw [if_neg e, if_neg (fun z => e (r.1.trans z))]
      exact r
theorem TEs.append {ks : List TEnt} {xs : List (NestedKey × Addr × Value)} (h : TEs ks xs) (k : NestedKey) (b : Addr) {v : V} {u : Value} (rv : RelV v u) : TEs (ks ++ [(k, b, v)]) (xs ++ [(k, b, u)]) := by
  induction h with
  | nil => exact .cons ⟨rfl, rfl, rv⟩ .nil
  | cons r t ih => exact .cons r ih
theorem TEs.put {ks : List TEnt} {xs : List (NestedKey × Addr × Value)} (h : TEs ks xs) (k : NestedKey) (b : Addr) {v : V} {u : Value} (rv : RelV v u) : TEs (storeT ks k b v) (storedH xs k b u) := by
  have e : (atT ks k).isSome = (atKey xs k).isSome := by
    have := (h.look k).isSome_eq
    rw [Option.isSome_map] at this
    exact this
  unfold storeT storedH
  rw [e]
  split
  · exact h.map k rv
  · exact h.append k b rv
/-- the dict at a, frozen or owned, read -/
def Dk (B : Bs) (H : Hp) (W : Wr) (a : Addr) (es : List (D × D)) : Prop := (∃ kvs, Rd H a (.dK kvs) ∧ RpK B H W kvs es) ∨ (es ≠ [] ∧ ∃ ks, Rd H a (TD B a ks) ∧ RpT B H W ks es)
/-- the dict at a, owned -/
def Do (B : Bs) (H : Hp) (W : Wr) (a : Addr) (es : List (D × D)) : Prop := (∃ kvs, H a = some (.dK kvs) ∧ RpK B H W kvs es) ∨ (es ≠ [] ∧ ∃ ks, H a = some (TD B a ks) ∧ RpT B H W ks es)
theorem Do.dk {a : Addr} {es : List (D × D)} (h : Do B H W a es) : Dk B H W a es := h.imp (fun ⟨k, e, r⟩ => ⟨k, .inl e, r⟩) fun ⟨z, k, e, r⟩ => ⟨z, k, .inl e, r⟩
theorem rq_dict {v : V} {es : List (D × D)} (h : Rq B H W v (.dict es)) : ∃ a, v = .ref a ∧ es.length ≤ lim ∧ Dk B H W a es := by
  rcases h with h | ⟨_, _, _, _, e, _⟩ | ⟨a, kvs, es', rfl, e, h1, l, r⟩ | ⟨a, ks, es', rfl, e, z, h1, l, r⟩
  · cases h with
    | dK r n l q => exact ⟨_, rfl, l, .inl ⟨_, r, q⟩⟩
    | dT z r n l q => exact ⟨_, rfl, l, .inr ⟨z, _, r, q⟩⟩
  · cases e
  · cases e
    exact ⟨a, rfl, l, .inl ⟨kvs, .inl h1, r⟩⟩
  · cases e
    exact ⟨a, rfl, l, .inr ⟨z, ks, .inl h1, r⟩⟩
theorem OwnK.fz_inv : ∀ {es : List (D × D)} {kvs : List (Key × V)} {Fl : List Addr}, OwnK B H W .fz kvs es Fl → Fl = [] ∧ RpK B H W kvs es
  | [], _, _, h => by cases h; exact ⟨rfl, .nil⟩
  | _ :: _, _, _, h => by
    cases h with
    | cons a b =>
      obtain ⟨rfl, r⟩ := Own.fz_inv a
      obtain ⟨rfl, q⟩ := OwnK.fz_inv b
      exact ⟨rfl, .cons r q⟩
theorem OwnK.of_rp : ∀ {es : List (D × D)} {kvs : List (Key × V)}, RpK B H W kvs es → OwnK B H W .fz kvs es []
  | [], _, h => by cases h; exact .nil
  | _ :: _, _, h => by
    cases h with
    | cons a b => exact .cons (F1 := []) (F2 := []) (.fz a) (OwnK.of_rp b)
theorem OwnT.fz_inv : ∀ {es : List (D × D)} {ks : List TEnt} {Fl : List Addr}, OwnT B H W .fz ks es Fl → Fl = [] ∧ RpT B H W ks es
  | [], _, _, h => by cases h; exact ⟨rfl, .nil⟩
  | _ :: _, _, _, h => by
    cases h with
    | cons e1 e0 e2 a b =>
      obtain ⟨rfl, r⟩ := Own.fz_inv a
      obtain ⟨rfl, q⟩ := OwnT.fz_inv b
      exact ⟨rfl, .cons e1 e0 e2 r q⟩
theorem OwnT.of_rp : ∀ {es : List (D × D)} {ks : List TEnt}, RpT B H W ks es → OwnT B H W .fz ks es []
  | [], _, h => by cases h; exact .nil
  | _ :: _, _, h => by
    cases h with
    | cons e1 e0 e2 a b => exact .cons (F1 := []) (F2 := []) e1 e0 e2 (.fz a) (OwnT.of_rp b)
theorem Own.dct_inv {v : V} {es : List (D × D)} {Fl : List Addr} (h : Own B H W (.dct .fz) v (.dict es) Fl) : ∃ a, v = .ref a ∧ Fl = [a] ∧ es.length ≤ lim ∧ Do B H W a es := by
  cases h with
  | imm i _ => simp [PD.imm] at i
  | dK e l q =>
    obtain ⟨rfl, r⟩ := OwnK.fz_inv q
    exact ⟨_, rfl, rfl, l, .inl ⟨_, e, r⟩⟩
  | dT z e l q =>
    obtain ⟨rfl, r⟩ := OwnT.fz_inv q
    exact ⟨_, rfl, rfl, l, .inr ⟨z, _, e, r⟩⟩
theorem Own.dct_of {a : Addr} {es : List (D × D)} (l : es.length ≤ lim) (h : Do B H W a es) : Own B H W (.dct .fz) (.ref a) (.dict es) [a] := by
  rcases h with ⟨k, e, r⟩ | ⟨z, k, e, r⟩
  · exact .dK e l (.of_rp r)
  · exact .dT z e l (.of_rp r)
end
/-! ### the raw operations -/
/-- what the dict at a holds at u -/
inductive DAt (P : Program) (w : World) (h : Heap) (a : Addr) (u : Value) : Option Value → Prop
  | k {kvs : List (Key × Value)} {key : Key} : h.DictOf (mixKind P w) a kvs → (mixKind P w).is key u = true → DAt P w h a u (valueAt kvs key)
  | t {xs : List (NestedKey × Addr × Value)} {b : Addr} {key : NestedKey} : u = .ref b → h.DictOfH (nestedKind P w) a xs → (nestedKind P w).is h key b → DAt P w h a u ((atKey xs key).map (·.2))
theorem nk_room {P : Program} {w : World} {A : Around} (hu : A.units + 16 < cLine) : (nestedKind P w).room A.in1 := by show A.in1.units + 8 < cLine; simp only [Around.in1_units]; omega
section
variable {P : Program} {w : World} {A : Around} {E : Value → Shared → Prop} {s : Shared} {a : Addr} {u : Value} {o : Option Value}
theorem DAt.typeIs (g : DAt P w s.heap a u o) : s.TypeIs (.ref a) "dict" := by
  cases g with
  | k d _ => exact d.typeIs
  | t _ d _ => exact d.typeIs
theorem DAt.noDict (g : DAt P w s.heap a u o) : ∀ b, Value.ref a = .ref b → ∃ ob, s.heap.get? b = some ob ∧ ob.dict = none := fun b q => by
  cases q
  cases g with
  | k d _ => obtain ⟨ob, _, _, h1, h2, _⟩ := d; exact ⟨ob, h1, h2.2.1⟩
  | t _ d _ => obtain ⟨ob, _, _, h1, h2, _⟩ := d; exact ⟨ob, h1, h2.2.1⟩
theorem n_in {Q : Value → Shared → Prop} (hu : A.units + 16 < cLine) (hd : (a == sysModules) = false) (g : DAt P w s.heap a u o) (h : ∀ tk, Q (.bool o.isSome) { s with toks := tk }) : wpAny (model P w) A (compareOp .In u (.ref a)) Q E s := by
  cases g with
  | k d hk => exact wpAny_in_of hk hd d.mapOf (h _)
  | t e d hk =>
    subst e
    refine wpAny_in_heap (nk_room hu) hk hd d ?_
    rename_i kk
    have := h (s.toks + (nestedKind P w).draws kk)
    rw [Option.isSome_map] at this
    exact this
theorem n_notIn {Q : Value → Shared → Prop} (hu : A.units + 16 < cLine) (hd : (a == sysModules) = false) (g : DAt P w s.heap a u o) (h : ∀ tk, Q (.bool (!o.isSome)) { s with toks := tk }) : wpAny (model P w) A (compareOp .NotIn u (.ref a)) Q E s := by
  cases g with
  | k d hk => exact wpAny_notIn_of hk hd d.mapOf (h _)
  | t e d hk =>
    subst e
    refine wpAny_notIn_heap (nk_room hu) hk hd d ?_
    rename_i kk
    have := h (s.toks + (nestedKind P w).draws kk)
    rw [Option.isSome_map] at this
    exact this
theorem n_get {Q : Value → Shared → Prop} {r : Value} (hu : A.units + 16 < cLine) (g : DAt P w s.heap a u (some r)) (h : ∀ tk, Q r { s with toks := tk }) : wpAny (model P w) A (getItem (.ref a) u) Q E s := by
  generalize ho : some r = o at g
  cases g with
  | k d hk => exact wpAny_getItem_of hk d.mapOf ho.symm (h _)
  | t e d hk =>
    subst e
    obtain ⟨p, hp, hp2⟩ := Option.map_eq_some_iff.mp ho.symm
    refine wpAny_getItem_heap (nk_room hu) hk d hp ?_
    rw [hp2]
    exact h _
theorem n_get2 {Q : Value → Shared → Prop} {r : Value} (hu : A.units + 16 < cLine) (hd : (a == sysModules) = false) (g : DAt P w s.heap a u o) (h : ∀ tk, Q (o.getD r) { s with toks := tk }) : wpAny (model P w) A (call (.builtin "dict.get") [.ref a, u, r]) Q E s := by
  cases g with
  | k d hk => exact call_meetsIn PySem.F.slot_dict_get d.typeIs PySem.F.entry_dict_get (PySem.F.args_dict_get_3 _ _ _) (meets_dict_get_default (mixKind P w) a hk hd r) ⟨_, d.mapOf, h _⟩
  | t e d hk =>
    subst e
    exact call_meetsIn PySem.F.slot_dict_get d.typeIs PySem.F.entry_dict_get (PySem.F.args_dict_get_3 _ _ _) (meetsH_dict_get_default (nestedKind P w) a _ hd r) ⟨nk_room hu, _, _, hk, d, h _⟩
theorem n_get1 {Q : Value → Shared → Prop} (hu : A.units + 16 < cLine) (hd : (a == sysModules) = false) (g : DAt P w s.heap a u o) (h : ∀ tk, Q (o.getD .none) { s with toks := tk }) : wpAny (model P w) A (call (.builtin "dict.get") [.ref a, u]) Q E s := by
  cases g with
  | k d hk => exact call_meetsIn PySem.F.slot_dict_get d.typeIs PySem.F.entry_dict_get (PySem.F.args_dict_get_2 _ _) (meets_dict_get (mixKind P w) a hk hd) ⟨_, d.mapOf, h _⟩
  | t e d hk =>
    subst e
    exact call_meetsIn PySem.F.slot_dict_get d.typeIs PySem.F.entry_dict_get (PySem.F.args_dict_get_2 _ _) (meetsH_dict_get (nestedKind P w) a _ hd) ⟨nk_room hu, _, _, hk, d, h _⟩
end
end PD

set_option Elab.async false
set_option linter.all false
set_option maxRecDepth 100000
set_option maxHeartbeats 4000000
/-! PDtb: dicts: looked at, changed. -/
namespace PD
open PySem PySem.Spec PyProof.Rows L2 RZ

/-- in H the dict at a holds ov at y -/
def NHas (X : Cx) (H : Hp) (a : Addr) (y : V) (ov : Option V) : Prop := ∀ (pins : List (Addr × Obj)) (σ : L2.St) (s : Shared) (u : Value), Inv X pins σ H s → RelV y u → (a == sysModules) = false ∧ ∃ o, DAt X.prog X.w s.heap a u o ∧ RelO ov o
/-- the heap behind a[y] = v -/
def NPut (X : Cx) (H : Hp) (a : Addr) (y v : V) (H' : Hp) : Prop := ∀ (pins : List (Addr × Obj)) (σ : L2.St) (s : Shared) (u r : Value) (A : Around) (E : Value → Shared → Prop) (Q : Unit → Shared → Prop), A.units + 16 < cLine → Inv X pins σ H s → RelV y u → RelV v r → (∀ s', Inv X pins σ H' s' → Q () s') → wpAny (model X.prog X.w) A (setItem (.ref a) u r) Q E s
/-- the heap behind a.setdefault(y, v) -/
def NSetd (X : Cx) (H : Hp) (a : Addr) (y v z : V) (H' : Hp) : Prop := ∀ (pins : List (Addr × Obj)) (σ : L2.St) (s : Shared) (u r : Value) (A : Around) (E : Value → Shared → Prop) (Q : Value → Shared → Prop), A.units + 16 < cLine → Inv X pins σ H s → RelV y u → RelV v r → (∀ w s', Inv X pins σ H' s' → RelV z w → Q w s') → s.TypeIs (.ref a) "dict" ∧ wpAny (model X.prog X.w) A (call (.builtin "dict.setdefault") [.ref a, u, r]) Q E s
section
variable {X : Cx} {pins : List (Addr × Obj)} {σ : L2.St} {H : Hp} {s : Shared} {B : Bs} {W : Wr}
theorem RpT.tups : ∀ {es : List (D × D)} {ks : List TEnt}, RpT B H W ks es → ∀ p ∈ es, simpleK p.1 = false
  | [], _, h, p, hp => nomatch hp
  | (c, d) :: es, _, h, p, hp => by
    cases h with
    | cons e dp rb r t =>
      rcases List.mem_cons.mp hp with rfl | hp
      · cases c with
        | int i => cases rb
        | str x => cases rb
        | _ => rfl
      · exact RpT.tups t p hp
theorem RpK.simps : ∀ {es : List (D × D)} {kvs : List (Key × V)}, RpK B H W kvs es → ∀ p ∈ es, simpleK p.1 = true
  | [], _, h, p, hp => nomatch hp
  | (c, d) :: es, _, h, p, hp => by
    cases h with
    | cons r t =>
      rcases List.mem_cons.mp hp with rfl | hp
      · exact simple_keyD
      · exact RpK.simps t p hp
theorem tup_not_simple {d : D} (h : isTupD d = true) : simpleK d = false := by cases d <;> first | rfl | cases h
/-- the entries' keys, as they stand -/
theorem RpT.is (I : Inv X pins σ H s) {es : List (D × D)} {ks : List TEnt} (h : RpT B H W ks es) {xs : List (NestedKey × Addr × Value)} (t : TEs ks xs) : ∀ x ∈ xs, (nestedKind X.prog X.w).is s.heap x.1 x.2.1 := by
  induction t generalizing es with
  | nil => intro x hx; cases hx
  | @cons p q ks xs r t ih =>
    cases es with
    | nil => cases h
    | cons e es =>
      cases h with
      | cons e dp rb rr tt =>
        intro x hx
        rcases List.mem_cons.mp hx with rfl | hx
        · obtain ⟨r1, r2, _⟩ := r
          rw [← r1, ← r2]
          exact ⟨Rp.nest I _ rb rfl e, dp⟩
        · exact ih tt x hx
theorem td_of (I : Inv X pins σ H s) {a : Addr} {ks : List TEnt} {es : List (D × D)} (e : Rd H a (TD (BOf X) a ks)) (r : RpT B H W ks es) : (a == sysModules) = false ∧ ∃ xs, TEs ks xs ∧ s.heap.DictOfH (nestedKind X.prog X.w) a xs := by
  have ok : ObjOk X.prog X.w H s.heap a (TD (BOf X) a ks) := rd_of I.hok e
  obtain ⟨hm, xs, o, es', ep, h0, h1, h2, h3, h4, h5⟩ := ok.1
  exact ⟨hm, xs, h0, o, es', ep, h1, h2, h3, h4, RpT.is I r h0, h5⟩
theorem empty_keyed {P : Program} {w : World} {h : Heap} {a : Addr} (d : h.DictOf (mixKind P w) a []) : h.DictOfH (nestedKind P w) a [] := by
  obtain ⟨o, es, ep, h1, h2, h3, h4, h5, h6⟩ := d
  refine ⟨o, es, ep, h1, h2, h3, ?_, fun x hx => (nomatch hx), List.nodup_nil⟩
  cases q : es.toList with
  | nil => rfl
  | cons _ _ =>
    rw [q] at h5
    have := h5.length
    simp at this
theorem kindOk_cases {es : List (D × D)} {k : D} (h : kindOk es k = true) : (simpleK k = true ∧ ∀ p ∈ es, simpleK p.1 = true) ∨ (tupK k = true ∧ ∀ p ∈ es, isTupD p.1 = true) := by
  unfold kindOk at h
  simp only [Bool.or_eq_true, Bool.and_eq_true, List.all_eq_true] at h
  exact h
theorem tupK_key {k : D} (h : tupK k = true) : ∃ ds n, k = .tuple ds ∧ nkey k = some n ∧ n.depth ≤ 8 := by
  unfold tupK at h
  rw [Bool.and_eq_true] at h
  obtain ⟨h1, h2⟩ := h
  cases k with
  | tuple ds =>
    unfold deepOk at h2
    cases q : nkey (.tuple ds) with
    | none => rw [q] at h2; cases h2
    | some n => rw [q] at h2; exact ⟨ds, n, rfl, rfl, of_decide_eq_true h2⟩
  | _ => cases h1
theorem Rp.key {k : Key} {y : V} (r : Rp B H W y (keyD k)) : y = kV k := by
  cases k <;> (cases r; rfl)
theorem nhas_of (hB : B = BOf X) {a : Addr} {es : List (D × D)} {k : D} {y : V} (dk : Dk B H W a es) (rk : Rp B H W y k) (ok : kindOk es k = true) :
    ∃ ov, NHas X H a y ov ∧ match lookD es k with
      | none => ov = none
      | some d => ∃ v, ov = some v ∧ Rp B H W v d := by
  subst hB
  rcases dk with ⟨kvs, e, r⟩ | ⟨z, ks, e, r⟩
  · rcases kindOk_cases ok with ⟨sk, _⟩ | ⟨tk, ha⟩
    · obtain ⟨key, rfl⟩ := simple_key sk
      refine ⟨valV kvs key, fun pins σ s u I ry => ?_, ?_⟩
      · obtain ⟨_, hd, vs, rel, dd⟩ := dk_rd I.hok e
        rw [rk.key] at ry
        exact ⟨hd, _, .k dd (kV_is ry), rel.val key⟩
      · have := r.look key
        cases q : valV kvs key with
        | none => rw [q] at this; rw [this]
        | some v =>
          rw [q] at this
          obtain ⟨d, h1, h2⟩ := this
          rw [h1]
          exact ⟨v, rfl, h2⟩
    · have he : es = [] := by
        cases es with
        | nil => rfl
        | cons p es =>
          have h1 := ha p List.mem_cons_self
          have h2 := r.simps p List.mem_cons_self
          rw [tup_not_simple h1] at h2
          cases h2
      subst he
      cases r
      obtain ⟨ds, n, rfl, hk, hn⟩ := tupK_key tk
      refine ⟨none, fun pins σ s u I ry => ?_, rfl⟩
      obtain ⟨_, hd, vs, rel, dd⟩ := dk_rd I.hok e
      cases rel
      cases rk with
      | tup rd nw l q =>
        rename_i b ys
        have key : (nestedKind X.prog X.w).is s.heap n b := ⟨Rp.nest I (.tuple ds) (.tup rd nw l q) rfl hk, hn⟩
        exact ⟨hd, _, .t (show u = Value.ref b from ry) (empty_keyed dd) key, True.intro⟩
  · rcases kindOk_cases ok with ⟨_, ha⟩ | ⟨tk, _⟩
    · exfalso
      cases es with
      | nil => exact z rfl
      | cons p es =>
        have h1 := ha p List.mem_cons_self
        rw [r.tups p List.mem_cons_self] at h1
        cases h1
    · obtain ⟨ds, n, rfl, hk, hn⟩ := tupK_key tk
      have lk := r.look hk
      refine ⟨atT ks n, fun pins σ s u I ry => ?_, ?_⟩
      · obtain ⟨hd, xs, t, dd⟩ := td_of I e r
        cases rk with
        | tup rd nw l q =>
          rename_i b ys
          have key : (nestedKind X.prog X.w).is s.heap n b := ⟨Rp.nest I (.tuple ds) (.tup rd nw l q) rfl hk, hn⟩
          exact ⟨hd, _, .t (show u = Value.ref b from ry) dd key, t.look n⟩
      · cases q : atT ks n with
        | none => rw [q] at lk; rw [lk]
        | some v =>
          rw [q] at lk
          obtain ⟨d, e1, rd⟩ := lk
          rw [e1]
          exact ⟨v, rfl, rd⟩
/-- a dict with tuple keys, written anew -/
theorem td_write (I : Inv X pins σ H s) {a : Addr} {h' : Heap} {tk : Nat} {ks : List TEnt} {xs : List (NestedKey × Addr × Value)} (mu : Mut (H a)) (hd : (a == sysModules) = false) (t : TEs ks xs) (dd : h'.DictOfH (nestedKind X.prog X.w) a xs) (hs : Heap.SameBut a s.heap h') : Inv X pins σ (upd H a (TD (BOf X) a ks)) { s with heap := h', toks := tk } := by
  obtain ⟨o, es, ep, h1, h2, h3, h4, h5, h6⟩ := dd
  have new : ObjOk X.prog X.w (upd H a (TD (BOf X) a ks)) h' a (TD (BOf X) a ks) := by
    refine ⟨⟨hd, xs, o, es, ep, t, h1, h2, h3, h4, h6⟩, ⟨o, h1⟩, fun g1 g2 ⟨q1, q2, o1, es1, ep1, q3, p1, p2⟩ k => ⟨q1, q2, o1, es1, ep1, q3, k _ p1, p2⟩⟩
  exact d_write I mu hs ⟨o, h1⟩ new
theorem setd_k {kvs : List (Key × V)} {key : Key} {a : Addr} {u r : Value} {v : V} {A : Around} {E : Value → Shared → Prop} {Q : Value → Shared → Prop} (I : Inv X pins σ H s) (e : H a = some (.dK kvs)) (ry : RelV (kV key) u) (rd : RelV v r) (hl : kvs.length < sizeLine)
    (h1 : ∀ z, valV kvs key = some z → ∀ w s', Inv X pins σ H s' → RelV z w → Q w s') (h2 : valV kvs key = none → ∀ w s', Inv X pins σ (upd H a (.dK (putK kvs key v))) s' → RelV v w → Q w s') : wpAny (model X.prog X.w) A (call (.builtin "dict.setdefault") [.ref a, u, r]) Q E s :=
  d_setd I e ry rd hl (fun v0 q w' s' => h1 v0 q w' s') (fun q w' s' => h2 q w' s')
/-- what a[y] = v, a.setdefault(y, v) make of the dict -/
theorem nput_of (hB : B = BOf X) {a : Addr} {es : List (D × D)} {k d : D} {y v : V} (hW : W a) (do_ : Do B H W a es) (rk : Rp B H W y k) (rv : Rp B H W v d) (ok : kindOk es k = true) (hl : es.length < lim) :
    ∃ o', NPut X H a y v (upd H a o') ∧ Do B (upd H a o') W a (putD es k d) ∧ match lookD es k with
      | none => NSetd X H a y v v (upd H a o')
      | some d0 => ∃ v0, Rp B H W v0 d0 ∧ NSetd X H a y v v0 H := by
  subst hB
  have kp : ∀ {o' : HO} {b : Addr} {u : HO}, Rd H b u → ¬ W b → Rd (upd H a o') b u := fun {o' b u} r n => by
    have hne : b ≠ a := fun z => n (z ▸ hW)
    rcases r with r | ⟨o, r⟩
    · exact .inl (by rw [upd_ne hne]; exact r)
    · exact .inr ⟨o, by rw [upd_ne hne]; exact r⟩
  have rv' : ∀ {o'}, Rp (BOf X) (upd H a o') W v d := fun {o'} => Rp.keepR (fun b u _ r n => kp r n) (fun b q => .inl q) d rv
  -- with a tuple as its key
  have tup : ∀ (ks : List TEnt) (n : NestedKey) (b : Addr) (ds : List D), k = .tuple ds → y = .ref b → nkey k = some n → n.depth ≤ 8 → RpT (BOf X) H W ks es →
      (∀ {pins σ s}, Inv X pins σ H s → (a == sysModules) = false ∧ Mut (H a) ∧ ∃ xs, TEs ks xs ∧ s.heap.DictOfH (nestedKind X.prog X.w) a xs) →
      ∃ o', NPut X H a y v (upd H a o') ∧ Do (BOf X) (upd H a o') W a (putD es k d) ∧ match lookD es k with
        | none => NSetd X H a y v v (upd H a o')
        | some d0 => ∃ v0, Rp (BOf X) H W v0 d0 ∧ NSetd X H a y v v0 H := by
    intro ks n b ds ek ey hk hn r get
    subst ey
    have rk' : ∀ {o'}, Rp (BOf X) (upd H a o') W (.ref b) k := fun {o'} => Rp.keepR (fun b u _ r n => kp r n) (fun b q => .inl q) k rk
    have hlk := r.length
    have look := r.look hk
    have key : ∀ {pins σ s}, Inv X pins σ H s → (nestedKind X.prog X.w).is s.heap n b := fun I => ⟨Rp.nest I _ rk rfl hk, hn⟩
    refine ⟨TD (BOf X) a (storeT ks n b v), fun pins σ s u r' A E Q hu I ry rr h => ?_, .inr ⟨putD_ne _ _ _, _, upd_same, RpT.put (RpT.keepR (fun b u _ r n => kp r n) (fun b q => .inl q) es r) hk hn rk' rv'⟩, ?_⟩
    · obtain ⟨hd, mu, xs, t, dd⟩ := get I
      cases (show u = Value.ref b from ry)
      have hz : xs.length ≤ sizeLine := by rw [← Paired.length t, hlk]; exact lim_size (Nat.le_of_lt hl)
      exact wpAny_setItem_heap (hsz := hz) (nk_room hu) (key I) dd fun h' dd' hs => h _ (td_write I mu hd (t.put n b rr) dd' hs)
    · cases q : atT ks n with
      | none =>
        rw [q] at look
        rw [look]
        intro pins σ s u r' A E Q hu I ry rr h
        obtain ⟨hd, mu, xs, t, dd⟩ := get I
        cases (show u = Value.ref b from ry)
        have hz : xs.length ≤ sizeLine := by rw [← Paired.length t, hlk]; exact lim_size (Nat.le_of_lt hl)
        have hat : atKey xs n = none := by
          have := (t.look n).isSome_eq
          rw [q, Option.isSome_map] at this
          cases q2 : atKey xs n with
          | none => rfl
          | some _ => rw [q2] at this; cases this
        refine ⟨dd.typeIs, call_setdefault_heap (nk_room hu) (key I) hd dd ?_ ?_ hz⟩
        · intro p hp; rw [hat] at hp; cases hp
        · intro _ h' dd' hs
          exact h _ _ (td_write I mu hd (t.put n b rr) dd' hs) rr
      | some v0 =>
        rw [q] at look
        obtain ⟨d0, e1, r0⟩ := look
        rw [e1]
        refine ⟨v0, r0, fun pins σ s u r' A E Q hu I ry rr h => ?_⟩
        obtain ⟨hd, mu, xs, t, dd⟩ := get I
        cases (show u = Value.ref b from ry)
        have hz : xs.length ≤ sizeLine := by rw [← Paired.length t, hlk]; exact lim_size (Nat.le_of_lt hl)
        have hl := t.look n
        rw [q] at hl
        refine ⟨dd.typeIs, call_setdefault_heap (nk_room hu) (key I) hd dd ?_ ?_ hz⟩
        · intro p hp
          rw [hp] at hl
          exact h _ _ (I.tok _) hl
        · intro hn
          rw [hn] at hl
          exact hl.elim
  rcases do_ with ⟨kvs, e, r⟩ | ⟨z, ks, e, r⟩
  · have hlk := r.length
    rcases kindOk_cases ok with ⟨sk, _⟩ | ⟨tk, ha⟩
    · obtain ⟨key, rfl⟩ := simple_key sk
      have look := r.look key
      have hsl : kvs.length < sizeLine := by rw [hlk]; exact lim_lt hl
      refine ⟨.dK (putK kvs key v), fun pins σ s u r' A E Q hu I ry rr h => ?_, .inl ⟨_, upd_same, RpK.put (RpK.keepR (fun b u _ r n => kp r n) (fun b q => .inl q) es r) key rv'⟩, ?_⟩
      · rw [rk.key] at ry
        exact d_setItem (H' := upd H a (.dK (putK kvs key v))) (by omega) I (.k e hsl) ry rr h
      · have ty : ∀ {pins σ s}, Inv X pins σ H s → s.TypeIs (.ref a) "dict" := fun I => by
          obtain ⟨_, _, vs, _, dd⟩ := dk_of I.hok e
          exact dd.typeIs
        cases q : valV kvs key with
        | none =>
          rw [q] at look
          rw [look]
          intro pins σ s u r' A E Q hu I ry rr h
          rw [rk.key] at ry
          exact ⟨ty I, setd_k I e ry rr hsl (fun z hz => by rw [q] at hz; cases hz) fun _ => h⟩
        | some v0 =>
          rw [q] at look
          obtain ⟨d0, e1, r0⟩ := look
          rw [e1]
          refine ⟨v0, r0, fun pins σ s u r' A E Q hu I ry rr h => ?_⟩
          rw [rk.key] at ry
          exact ⟨ty I, setd_k I e ry rr hsl (fun z hz => by rw [q] at hz; cases hz; exact h) fun hz => by rw [q] at hz; cases hz⟩
    · have he : es = [] := by
        cases es with
        | nil => rfl
        | cons p es =>
          have h1 := ha p List.mem_cons_self
          have h2 := r.simps p List.mem_cons_self
          rw [tup_not_simple h1] at h2
          cases h2
      subst he
      cases r
      obtain ⟨ds, n, rfl, hk, hn⟩ := tupK_key tk
      have hy : ∃ b, y = .ref b := by cases rk; exact ⟨_, rfl⟩
      obtain ⟨b, rfl⟩ := hy
      refine tup [] n b ds rfl rfl hk hn .nil fun I => ?_
      obtain ⟨_, hd, vs, rel, dd⟩ := dk_of I.hok e
      cases rel
      exact ⟨hd, by rw [e]; exact True.intro, [], .nil, empty_keyed dd⟩
  · rcases kindOk_cases ok with ⟨_, ha⟩ | ⟨tk, _⟩
    · exfalso
      cases es with
      | nil => exact z rfl
      | cons p es =>
        have h1 := ha p List.mem_cons_self
        rw [r.tups p List.mem_cons_self] at h1
        cases h1
    · obtain ⟨ds, n, rfl, hk, hn⟩ := tupK_key tk
      have hy : ∃ b, y = .ref b := by cases rk; exact ⟨_, rfl⟩
      obtain ⟨b, rfl⟩ := hy
      refine tup ks n b ds rfl rfl hk hn r fun I => ?_
      obtain ⟨hd, xs, t, dd⟩ := td_of I (.inl e) r
      exact ⟨hd, by rw [e]; exact True.intro, xs, t, dd⟩
end
end PD

set_option Elab.async false
set_option linter.all false
set_option maxRecDepth 100000
set_option maxHeartbeats 4000000
/-! PDtc: dicts: expressions. -/
namespace PD
open PySem PySem.Spec PyProof.Rows L2 RZ

theorem rq_keyRp {B : Bs} {H : Hp} {W : Wr} {v : V} {d : D} (h : Rq B H W v d) (k : simpleK d = true ∨ isTupD d = true) : Rp B H W v d := by
  rcases h with h | ⟨_, _, _, _, e, _⟩ | ⟨_, _, _, _, e, _⟩ | ⟨_, _, _, _, e, _⟩
  · exact h
  all_goals
    subst e
    rcases k with k | k <;> cases k
theorem kindOk_key {es : List (D × D)} {k : D} (h : kindOk es k = true) : simpleK k = true ∨ isTupD k = true := by
  rcases kindOk_cases h with ⟨h, _⟩ | ⟨h, _⟩
  · exact .inl h
  · obtain ⟨_, _, rfl, _⟩ := tupK_key h
    exact .inr rfl
/-- a dict, a key: asked -/
def rDk (B : Bs) (g : Option D → D → Prop) : R2 := fun x y H Q => True
def rInN (B : Bs) (neg : Bool) : R2 := fun x y H Q => ∃ a es k W, y = .ref a ∧ Dk B H W a es ∧ Rp B H W x k ∧ kindOk es k = true ∧ Q (.bl (if neg then !(lookD es k).isSome else (lookD es k).isSome)) H
def rGetN (B : Bs) : R2 := fun x y H Q => ∃ a es k W, x = .ref a ∧ Dk B H W a es ∧ Rp B H W y k ∧ kindOk es k = true ∧ ∃ d, lookD es k = some d ∧ ∀ v, Rp B H W v d → Q v H
section
variable {X : Cx}
theorem RelO.some_inv {v : V} {o : Option Value} (h : RelO (some v) o) : ∃ u, o = some u ∧ RelV v u := by
  cases o with
  | none => exact h.elim
  | some u => exact ⟨u, rfl, h⟩
theorem RelO.none_inv {o : Option Value} (h : RelO none o) : o = none := by
  cases o with
  | none => rfl
  | some u => exact h.elim
theorem op_inN (hu : X.A.units + 64 < cLine) : OpR X (compareOp .In) (rInN (BOf X) false) := by
  intro pins s σ H x y v u Q I rx ry ⟨a, es, k, W, hy, dk, rk, ok, q⟩
  subst hy
  cases (show u = Value.ref a from ry)
  obtain ⟨ov, nh, hl⟩ := nhas_of rfl dk rk ok
  obtain ⟨hd, o, dt, rel⟩ := nh pins σ s v I rx
  refine n_in (by omega) hd dt fun tk => ⟨.bl o.isSome, H, I.tok _, rfl, ?_⟩
  have e : o.isSome = (lookD es k).isSome := by
    cases ql : lookD es k with
    | none => rw [ql] at hl; subst hl; rw [RelO.none_inv rel]; rfl
    | some d =>
      rw [ql] at hl
      obtain ⟨v, rfl, _⟩ := hl
      obtain ⟨u, rfl, _⟩ := RelO.some_inv rel
      rfl
  rw [e]
  exact q
theorem op_notInN (hu : X.A.units + 64 < cLine) : OpR X (compareOp .NotIn) (rInN (BOf X) true) := by
  intro pins s σ H x y v u Q I rx ry ⟨a, es, k, W, hy, dk, rk, ok, q⟩
  subst hy
  cases (show u = Value.ref a from ry)
  obtain ⟨ov, nh, hl⟩ := nhas_of rfl dk rk ok
  obtain ⟨hd, o, dt, rel⟩ := nh pins σ s v I rx
  refine n_notIn (by omega) hd dt fun tk => ⟨.bl (!o.isSome), H, I.tok _, rfl, ?_⟩
  have e : o.isSome = (lookD es k).isSome := by
    cases ql : lookD es k with
    | none => rw [ql] at hl; subst hl; rw [RelO.none_inv rel]; rfl
    | some d =>
      rw [ql] at hl
      obtain ⟨v, rfl, _⟩ := hl
      obtain ⟨u, rfl, _⟩ := RelO.some_inv rel
      rfl
  rw [e]
  exact q
end
def inK : D → D → Option D
  | k, .dict es => if kindOk es k = true then some (.bool (lookD es k).isSome) else none
  | _, _ => none
def notInK : D → D → Option D
  | k, .dict es => if kindOk es k = true then some (.bool (!(lookD es k).isSome)) else none
  | _, _ => none
def ixK : D → D → Option D
  | .dict es, k => if kindOk es k = true then lookD es k else none
  | _, _ => none
theorem pv_inN {B : Bs} : PV2 B (rInN B false) .fz inK := by
  intro x y d e H W Q z hx hy hz hW k
  unfold inK at hz
  split at hz
  · split at hz
    · rename_i k0 es ok
      cases hz
      obtain ⟨a, rfl, _, dk⟩ := rq_dict hy
      exact ⟨a, es, _, W, rfl, dk, rq_keyRp hx (kindOk_key ok), ok, k.bl⟩
    · cases hz
  · cases hz
theorem pv_notInN {B : Bs} : PV2 B (rInN B true) .fz notInK := by
  intro x y d e H W Q z hx hy hz hW k
  unfold notInK at hz
  split at hz
  · split at hz
    · rename_i k0 es ok
      cases hz
      obtain ⟨a, rfl, _, dk⟩ := rq_dict hy
      exact ⟨a, es, _, W, rfl, dk, rq_keyRp hx (kindOk_key ok), ok, k.bl⟩
    · cases hz
  · cases hz
theorem pv_ixN {B : Bs} : PV2 B (rGetN B) .fz ixK := by
  intro x y d e H W Q z hx hy hz hW k
  unfold ixK at hz
  split at hz
  · split at hz
    · rename_i ok
      obtain ⟨a, rfl, _, dk⟩ := rq_dict hx
      exact ⟨a, _, _, W, rfl, dk, rq_keyRp hy (kindOk_key ok), ok, z, hz, fun v r => k.rp r⟩
    · cases hz
  · cases hz
section
variable {X : Cx} {G : Sg} {W : WX} {a b c o i e f value : Expr} {pos pos' apos cpos p p2 : Pos} {t : T} {td ty tx : TE} {fa fb fc : Env → Res Arg} {fk fv fx : Env → Res D} {x : Str} {j : Nat}
theorem pe_nix (hu : X.A.units + 64 < cLine) (ho : PE X o td) (hi : PE X i ty) (hs : NoSl i) : PE X (.Subscript o i pos) (tOp (rGetN (BOf X)) td ty) := by
  refine ⟨fun pins s σ H Q I h => ?_⟩
  refine subD_of PySem.F.slot_dict_getitem.lookup hs (thn (ho.run pins s σ H _ I h) fun u s1 ⟨x, H1, I1, rx, q1⟩ => thn (hi.run pins s1 σ H1 _ I1 q1) fun iv s2 ⟨y, H2, I2, ry, a, es, k, W, ex, dk, rk, ok, d, hl, q2⟩ => ?_)
  subst ex
  obtain rfl : u = Value.ref a := rx
  obtain ⟨ov, nh, hv⟩ := nhas_of rfl dk rk ok
  rw [hl] at hv
  obtain ⟨v, rfl, rv⟩ := hv
  obtain ⟨hd, o', dt, rel⟩ := nh pins σ s2 iv I2 ry
  obtain ⟨r, rfl, rr⟩ := RelO.some_inv rel
  exact ⟨dt.typeIs, n_get (by omega) dt fun tk => ⟨v, H2, I2.tok _, rr, q2 v rv⟩⟩
theorem dx_nix (hB : G.B = BOf X) (hu : X.A.units + 64 < cLine) (ha : DO X G W a fa) (hb : DO X G W b fb) (hs : NoSl b) : DX X G W .fz (.Subscript a b pos) (eOp2 ixK fa fb) :=
  PE.imp (pe_nix hu ha hb hs) fun σ H Q ⟨F, ρ, E, g⟩ => tO_bind E g fun x a1 ρ1 H1 F1 E1 o1 g1 _ => tO_bind E1 g1 fun y b1 ρ2 H2 F2 E2 o2 g2 v2 => op2_end (hB ▸ pv_ixN) E2 (o1.evo v2) o2 g2 fun d H' F' Fl v _ k o _ _ => k v o
/-- d.get(k, x) -/
def rGet2 (B : Bs) (a : Addr) (y z : V) (H : Hp) (Q : VK) : Prop := ∃ es k W, Dk B H W a es ∧ Rp B H W y k ∧ kindOk es k = true ∧ match lookD es k with
  | none => Q z H
  | some d => ∀ v, Rp B H W v d → Q v H
def IsDN (B : Bs) (H : Hp) (a : Addr) : Prop := ∃ es W, Dk B H W a es
theorem isDN_at {pins : List (Addr × Obj)} {σ : L2.St} {H : Hp} {s : Shared} {a : Addr} (I : Inv X pins σ H s) (d : IsDN (BOf X) H a) : s.TypeIs (.ref a) "dict" ∧ (∀ b, Value.ref a = .ref b → ∃ ob, s.heap.get? b = some ob ∧ ob.dict = none) ∧ (a == sysModules) = false := by
  obtain ⟨es, W, ⟨kvs, e, _⟩ | ⟨_, ks, e, r⟩⟩ := d
  · exact isD_at I (.inl ⟨kvs, e⟩)
  · obtain ⟨hd, xs, _, dd⟩ := td_of I e r
    refine ⟨dd.typeIs, fun b q => ?_, hd⟩
    cases q
    obtain ⟨ob, _, _, h1, h2, _⟩ := dd
    exact ⟨ob, h1, h2.2.1⟩
def tNGet2 (B : Bs) (td ty tx : TE) : TE := fun σ H Q => td σ H fun x H1 => ∃ a, x = .ref a ∧ IsDN B H1 a ∧ ty σ H1 fun y H2 => tx σ H2 fun z H3 => rGet2 B a y z H3 Q
theorem pe_nget2 (hu : X.A.units + 64 < cLine) (ho : PE X o td) (he : PE X e ty) (hf : PE X f tx) (m : M2 X o "get" apos e f cpos) : PE X (.Call (.Attribute o "get" apos) [e, f] [] cpos) (tNGet2 (BOf X) td ty tx) := by
  refine ⟨fun pins s σ H Q I h => ?_⟩
  refine wpAny_Call_method m.base m.few m.line PySem.F.plainAttrs_dict PySem.F.slot_dict_get PySem.F.type_dict_get (thn (ho.run pins s σ H _ I h) fun u s1 ⟨x, H1, I1, rx, a, ex, d, q1⟩ => ?_)
  subst ex
  obtain rfl : u = Value.ref a := rx
  obtain ⟨t1, t2, _⟩ := isDN_at I1 d
  refine ⟨t1, t2, ?_⟩
  rw [m.trees]
  refine Calls.callWith_builtin rfl (Calls.evalArgs_plain (Calls.spliced_cons (thn (he.run pins s1 σ H1 _ I1 q1) fun iv s2 ⟨y, H2, I2, ry, q2⟩ =>
    Calls.spliced_cons (thn (hf.run pins s2 σ H2 _ I2 q2) fun fv s3 ⟨z, H3, I3, rz, es, k, W, dk, rk, ok, q3⟩ => Calls.spliced_nil ?_))))
  obtain ⟨ov, nh, hv⟩ := nhas_of rfl dk rk ok
  obtain ⟨hd, o', dt, rel⟩ := nh pins σ s3 iv I3 ry
  refine n_get2 (by omega) hd dt fun tk => ?_
  cases hl : lookD es k with
  | none =>
    rw [hl] at hv q3
    subst hv
    rw [RelO.none_inv rel]
    exact ⟨z, H3, I3.tok _, rz, q3⟩
  | some d =>
    rw [hl] at hv q3
    obtain ⟨v, rfl, rv⟩ := hv
    obtain ⟨r, rfl, rr⟩ := RelO.some_inv rel
    exact ⟨v, H3, I3.tok _, rr, q3 v rv⟩
def isDictD : D → Bool
  | .dict _ => true
  | _ => false
def getK (es : List (D × D)) (k x : D) : Option D := if kindOk es k = true then some ((lookD es k).getD x) else none
def eGet2 (fo fk : Env → Res Arg) (fx : Env → Res D) : Env → Res D := fun ρ => bnd (fo ρ) fun a ρ1 => match deref ρ1 a with
  | some (.dict _) => bnd (fk ρ1) fun k ρ2 => bnd (fx ρ2) fun x ρ3 => match deref ρ3 a with
    | some (.dict es) => match deref ρ3 k with
      | some kd => ofO (getK es kd x) ρ3
      | none => .err
    | _ => .err
  | _ => .err
theorem dx_nget2 (hB : G.B = BOf X) (hu : X.A.units + 64 < cLine) (ho : DO X G W o fa) (he : DO X G W e fb) (hf : DX X G W .fz f fx) (m : M2 X o "get" apos e f cpos) : DX X G W .fz (.Call (.Attribute o "get" apos) [e, f] [] cpos) (eGet2 fa fb fx) :=
  PE.imp (pe_nget2 hu ho he hf m) fun σ H Q ⟨F, ρ, E, g⟩ => tO_bind E g fun x a1 ρ1 H1 F1 E1 o1 g1 _ => by
    cases e1 : deref ρ1 a1 with
    | none => rw [e1] at g1; exact g1.elim
    | some d1 =>
      rw [e1] at g1
      cases d1 with
      | dict es1 =>
        obtain ⟨a, rfl, _, dk1⟩ := rq_dict (o1.rq E1 e1)
        refine ⟨a, rfl, ⟨es1, _, hB ▸ dk1⟩, tO_bind E1 g1 fun y b1 ρ2 H2 F2 E2 o2 g2 v2 => tX_bind E2 g2 fun z dz ρ3 H3 F3 E3 rz g3 v3 => ?_⟩
        cases e2 : deref ρ3 a1 with
        | none => rw [e2] at g3; exact g3.elim
        | some d2 =>
          rw [e2] at g3
          cases d2 with
          | dict es =>
            cases e3 : deref ρ3 b1 with
            | none => simp only [e3] at g3; exact g3.elim
            | some kd =>
              simp only [e3] at g3
              unfold getK at g3
              split at g3
              · rename_i ok
                obtain ⟨a', e', _, dk⟩ := rq_dict (((o1.evo v2).evo v3).rq E3 e2)
                cases e'
                have rk := rq_keyRp ((o2.evo v3).rq E3 e3) (kindOk_key ok)
                refine ⟨es, kd, _, hB ▸ dk, hB ▸ rk, ok, ?_⟩
                cases hl : lookD es kd with
                | none =>
                  rw [hl] at g3
                  exact Go.done g3 E3 z (.fz (by rw [Sg.add_nil]; exact rz))
                | some d =>
                  rw [hl] at g3
                  intro v rv
                  exact Go.done g3 E3 v (.fz (by rw [Sg.add_nil, hB]; exact rv))
              · exact g3.elim
          | _ => exact g3.elim
      | _ => exact g1.elim
end
end PD

set_option Elab.async false
set_option linter.all false
set_option maxRecDepth 100000
set_option maxHeartbeats 4000000
/-! PDtd: dicts: list(d), list(d.values()), d[k] = v, d.setdefault(k, v), displays. -/
namespace PD
open PySem PySem.Spec PyProof.Rows L2 RZ PySem.W

section
variable {X : Cx} {pins : List (Addr × Obj)} {σ : L2.St} {H : Hp} {s : Shared} {B : Bs} {W : Wr}
/-- the entries as they stand -/
theorem RpK.entry : ∀ {es : List (D × D)} {kvs : List (Key × V)}, RpK B H W kvs es → ∀ {vs : List (Key × Value)}, KV kvs vs → ∀ (i : Nat) c d, es[i]? = some (c, d) → ∃ key u v, vs[i]? = some (key, u) ∧ c = keyD key ∧ RelV v u ∧ Rp B H W v d
  | [], _, h, _, _, i, c, d, e => by simp at e
  | p :: es, _, h, _, r, i, c, d, e => by
    cases h with
    | cons r0 b =>
      unfold KV at r
      cases r with
      | cons q t =>
        cases i with
        | zero =>
          simp only [List.getElem?_cons_zero, Option.some.injEq] at e
          cases e
          refine ⟨_, _, _, by simp only [List.getElem?_cons_zero]; exact congrArg some (Prod.ext q.1.symm rfl), rfl, q.2, r0⟩
        | succ i =>
          simp only [List.getElem?_cons_succ] at e ⊢
          exact RpK.entry b t i c d e
theorem RpT.entry : ∀ {es : List (D × D)} {ks : List TEnt}, RpT B H W ks es → ∀ {xs : List (NestedKey × Addr × Value)}, TEs ks xs → ∀ (i : Nat) c d, es[i]? = some (c, d) → ∃ k b u v, xs[i]? = some (k, b, u) ∧ Rp B H W (.ref b) c ∧ RelV v u ∧ Rp B H W v d
  | [], _, h, _, _, i, c, d, e => by simp at e
  | p :: es, _, h, _, r, i, c, d, e => by
    cases h with
    | cons e0 dp rb r0 t0 =>
      cases r with
      | @cons _ q _ _ r1 t =>
        cases i with
        | zero =>
          simp only [List.getElem?_cons_zero, Option.some.injEq] at e
          cases e
          obtain ⟨q1, q2, q3⟩ := r1
          exact ⟨q.1, q.2.1, q.2.2, _, rfl, by rw [← q2]; exact rb, q3, r0⟩
        | succ i =>
          simp only [List.getElem?_cons_succ] at e ⊢
          exact RpT.entry t0 t i c d e
theorem Rp.ofKey {k : Key} (h : ∀ x, k = .inr x → x.length ≤ lim) : Rp B H W (kV k) (keyD k) := by
  cases k with
  | inl i => exact .int i
  | inr x => exact .str (h x rfl)
/-- keys that are texts are not too long -/
def keysOk (es : List (D × D)) : Bool := es.all fun p => match p.1 with
  | .str x => decide (x.length ≤ lim)
  | _ => true
theorem raw_of (I : Inv X pins σ H s) {a : Addr} {es : List (D × D)} (hk : keysOk es = true) (dk : Dk (BOf X) H W a es) : (a == sysModules) = false ∧ ∃ er ep, s.heap.DictRaw a er ep ∧ er.size = es.length ∧ ∀ (i : Nat) c d, es[i]? = some (c, d) → ∃ en vk v, er[i]? = some en ∧ RelV vk en.key ∧ Rp (BOf X) H W vk c ∧ RelV v en.val ∧ Rp (BOf X) H W v d := by
  rcases dk with ⟨kvs, e, r⟩ | ⟨z, ks, e, r⟩
  · obtain ⟨_, hd, vs, rel, dd⟩ := dk_rd I.hok e
    obtain ⟨er, ep, hr, hs, he⟩ := dd.raw
    have hl : vs.length = es.length := by rw [← Paired.length rel, r.length]
    refine ⟨hd, er, ep, hr, by omega, fun i c d hi => ?_⟩
    obtain ⟨key, u, v, h1, rfl, h2, h3⟩ := r.entry rel i c d hi
    have hlt : i < er.size := by rw [hs]; exact (List.getElem?_eq_some_iff.mp h1).1
    obtain ⟨q1, q2⟩ := he i hlt _ _ h1
    refine ⟨er[i], kV key, v, Array.getElem?_eq_getElem hlt, relV_key q1, Rp.ofKey fun x hx => ?_, by rw [q2]; exact h2, h3⟩
    subst hx
    unfold keysOk at hk
    have := List.all_eq_true.mp hk _ (List.mem_of_getElem? hi)
    exact of_decide_eq_true this
  · obtain ⟨hd, xs, t, dd⟩ := td_of I e r
    obtain ⟨er, ep, hr, hs, he⟩ := dd.raw
    have hl : xs.length = es.length := by rw [← Paired.length t, r.length]
    refine ⟨hd, er, ep, hr, by omega, fun i c d hi => ?_⟩
    obtain ⟨k, b, u, v, h1, h2, h3, h4⟩ := r.entry t i c d hi
    have hlt : i < er.size := by rw [hs]; exact (List.getElem?_eq_some_iff.mp h1).1
    obtain ⟨y, q1, q2, q3, _⟩ := he i hlt
    rw [h1] at q1
    cases q1
    exact ⟨er[i], .ref b, v, Array.getElem?_eq_getElem hlt, q2, h2, by rw [q3]; exact h3, h4⟩
theorem vals_at : ∀ {ds : List D} {us : List Value}, us.length = ds.length → (∀ (i : Nat) u d, us[i]? = some u → ds[i]? = some d → ∃ v, RelV v u ∧ Rp B H W v d) → ∃ ys, Vals ys us ∧ RpAll B H W ys ds
  | [], [], _, _ => ⟨[], .nil, .nil⟩
  | [], _ :: _, h, _ => by simp at h
  | _ :: _, [], h, _ => by simp at h
  | d :: ds, u :: us, h, k => by
    obtain ⟨v, h1, h2⟩ := k 0 u d rfl rfl
    obtain ⟨ys, h3, h4⟩ := vals_at (ds := ds) (us := us) (by simpa using h) fun i u' d' e1 e2 => k (i + 1) u' d' (by simpa using e1) (by simpa using e2)
    exact ⟨v :: ys, .cons h1 h3, .cons h2 h4⟩
end
/-- list(d) -/
def rListK (B : Bs) : List V → Hp → VK → Prop := fun xs H Q => ∃ a es W, xs = [.ref a] ∧ keysOk es = true ∧ es.length ≤ lim ∧ Dk B H W a es ∧ ∀ ys p, RpAll B H W ys (es.map (·.1)) → H p = none → Q (.ref p) (upd H p (.lst ys))
theorem call_listK {X : Cx} (hc : X.calm = true) : CallR X (.type "list") (rListK (BOf X)) := by
  intro pins s σ H xs us Q I r h
  obtain ⟨a, es, W, rfl, hk, hl, dk, q⟩ := h
  rw [Vals.ref1 r]
  obtain ⟨hd, er, ep, hr, hs, he⟩ := raw_of I hk dk
  have hn : H s.heap.objs.size = none := I.hok.fresh (Nat.le_refl _)
  refine kdl_call (KdlSrc.rawDict hd) (I.ok.hd hc) hr (by rw [hs]; exact lim_size hl) fun h' tk acc c k hS hacc => ?_
  obtain ⟨ys, hv, hrp⟩ := vals_at (B := BOf X) (H := H) (W := W) (ds := es.map (·.1)) (us := acc.toList) (by rw [List.length_map, Array.length_toList, hacc.1, hs]) fun i u d e1 e2 => by
    rw [Array.getElem?_toList] at e1
    obtain ⟨hi, rfl⟩ := hacc.2 i u e1
    rw [List.getElem?_map] at e2
    cases q2 : es[i]? with
    | none => rw [q2] at e2; cases e2
    | some p =>
      rw [q2] at e2
      cases e2
      obtain ⟨en, vk, v, h1, h2, h3, _⟩ := he i p.1 p.2 q2
      rw [Array.getElem?_eq_getElem hi] at h1
      cases h1
      exact ⟨vk, h2, h3⟩
  have hlen : ys.length ≤ sizeLine := by rw [hv.length, Array.length_toList, hacc.1, hs]; exact lim_size hl
  exact ⟨.ref s.heap.objs.size, _, I.laid (t' := tk) (o := .lst ys) k (Nat.le_refl _) ⟨hlen, acc.toList, c, hv, by simpa using hS⟩, rfl, q ys _ hrp hn⟩
def listK : List D → Option D
  | [.dict es] => if keysOk es = true then some (.list (es.map (·.1))) else none
  | _ => none
theorem pv_listK {B : Bs} : PVn B (rListK B) (.lst .fz) listK := by
  intro xs ds H W Q z hx hz hW k
  unfold listK at hz
  split at hz
  · split at hz
    · rename_i es ok
      cases hz
      obtain ⟨v, rfl, h⟩ := rqAll1 hx
      obtain ⟨a, rfl, hl, dk⟩ := rq_dict h
      exact ⟨a, es, W, rfl, ok, hl, dk, fun ys p r hp => k.lst hp r (by rw [List.length_map]; exact hl)⟩
    · cases hz
  · cases hz
/-- list(d.values()) -/
def tListV (B : Bs) (td : TE) : TE := fun σ H Q => td σ H fun x H1 => ∃ a es W, x = .ref a ∧ keysOk es = true ∧ es.length ≤ lim ∧ Dk B H1 W a es ∧ ∀ ys p, RpAll B H1 W ys (es.map (·.2)) → H1 p = none → Q (.ref p) (upd H1 p (.lst ys))
section
variable {X : Cx} {G : Sg} {W : WX} {a b c o i e f value d : Expr} {pos pos' apos cpos p p2 q : Pos} {t : T} {td ty tx tv : TE} {fa fb fc : Env → Res Arg} {fk fv fx : Env → Res D} {x : Str} {j : Nat}
theorem pe_listV (hc : X.calm = true) (hg : Gl X "list") (hm : X.mg "list" = none) (hv : bootBuiltins "list" = some (.type "list")) (ho : PE X d td) (hbase : attributeBase d "values" X.env (eval d X.env) = eval d X.env := by rfl) (hline : (apos.endLine == cpos.line) = true := by rfl)
    (he : starEach [.Call (.Attribute d "values" apos) [] [] cpos] X.env = (false, eval (.Call (.Attribute d "values" apos) [] [] cpos) X.env) :: starEach [] X.env := by rfl) :
    PE X (.Call (.Name "list" p) [.Call (.Attribute d "values" apos) [] [] cpos] [] pos) (tListV (BOf X) td) := by
  refine ⟨fun pins s σ H Q I h => ?_⟩
  refine Call_ (ld_blt I hg hm hv ?_)
  refine PyProof.Rows.callWith_type1 (PyProof.Rows.args_cons ?_ he) he rfl
  refine wpAny_Call_method (T := "dict") (id := "dict.values") hbase rfl hline F.plainAttrs_dict F.slot_dict_values F.type_dict_values (thn (ho.run pins s σ H _ I h) fun u s1 ⟨x, H1, I1, rx, a, es, W, ex, hk, hl, dk, q1⟩ => ?_)
  subst ex
  obtain rfl : u = Value.ref a := rx
  obtain ⟨hd, er, ep, hr, hs, hen⟩ := raw_of I1 hk dk
  refine ⟨hr.typeIs, fun b e => ?_, ?_⟩
  · cases e
    obtain ⟨ob, h1, h2, _⟩ := hr
    exact ⟨ob, h1, h2.2.1⟩
  show wpAny _ _ (callWith cpos (.builtin "dict.values") [.ref a] [] []) _ X.xe s1
  refine method_meetsIn F.slot_dict_values F.entry_dict_values rfl (PySem.evalArgs_none ⟨rfl, hr.typeIs, F.args_dict_values_1 _, _, meets_dict_values_raw a hd, ⟨⟨er, ep, hr⟩, ?_⟩⟩)
  refine PyProof.Rows.args_nil ?_
  have I2 : Inv X pins σ H1 { s1 with heap := s1.heap.push { cls := .type "dict_values", data := .fields #[.ref a] } } := I1.kept (t' := s1.toks) fun b ob q => Heap.get?_push_of_some _ q
  have hn : H1 (s1.heap.push { cls := .type "dict_values", data := .fields #[.ref a] }).objs.size = none := I2.hok.fresh (Nat.le_refl _)
  refine kdl_call (s := { s1 with heap := s1.heap.push { cls := .type "dict_values", data := .fields #[.ref a] } }) (OK := fun h => h.IsValuesView s1.heap.objs.size a ∧ h.DictRaw a er ep) KdlSrc.rawValues (I1.ok.hd hc) ⟨⟨_, Heap.get?_push_size _ rfl, rfl, rfl⟩, hr.at fun o e => Heap.get?_push_of_some _ e⟩ (by rw [hs]; exact lim_size hl) fun h' tk acc c k hS hacc => ?_
  obtain ⟨ys, hv, hrp⟩ := vals_at (B := BOf X) (H := H1) (W := W) (ds := es.map (·.2)) (us := acc.toList) (by rw [List.length_map, Array.length_toList, hacc.1, hs]) fun i u d e1 e2 => by
    rw [Array.getElem?_toList] at e1
    obtain ⟨hi, rfl⟩ := hacc.2 i u e1
    rw [List.getElem?_map] at e2
    cases q2 : es[i]? with
    | none => rw [q2] at e2; cases e2
    | some p =>
      rw [q2] at e2
      cases e2
      obtain ⟨en, vk, v, h1, _, _, h2, h3⟩ := hen i p.1 p.2 q2
      rw [Array.getElem?_eq_getElem hi] at h1
      cases h1
      exact ⟨v, h2, h3⟩
  have hlen : ys.length ≤ sizeLine := by rw [hv.length, Array.length_toList, hacc.1, hs]; exact lim_size hl
  exact ⟨.ref _, _, I2.laid (t' := tk) (o := .lst ys) k (Nat.le_refl _) ⟨hlen, acc.toList, c, hv, by simpa using hS⟩, rfl, q1 ys _ hrp hn⟩
def listV : D → Option D
  | .dict es => if keysOk es = true then some (.list (es.map (·.2))) else none
  | _ => none
theorem dx_listV (hB : G.B = BOf X) (hc : X.calm = true) (hg : Gl X "list") (hm : X.mg "list" = none) (hv : bootBuiltins "list" = some (.type "list")) (ho : DO X G W d fa) (hbase : attributeBase d "values" X.env (eval d X.env) = eval d X.env := by rfl) (hline : (apos.endLine == cpos.line) = true := by rfl)
    (he : starEach [.Call (.Attribute d "values" apos) [] [] cpos] X.env = (false, eval (.Call (.Attribute d "values" apos) [] [] cpos) X.env) :: starEach [] X.env := by rfl) :
    DX X G W (.lst .fz) (.Call (.Name "list" p) [.Call (.Attribute d "values" apos) [] [] cpos] [] pos) (eOp1 listV fa) :=
  PE.imp (pe_listV hc hg hm hv ho hbase hline he) fun σ H Q ⟨F, ρ, E, g⟩ => tO_bind E g fun x a1 ρ1 H1 F1 E1 o1 g1 _ => by
    cases e1 : deref ρ1 a1 with
    | none => rw [e1] at g1; exact g1.elim
    | some d1 =>
      simp only [e1] at g1
      cases e3 : listV d1 with
      | none => rw [e3] at g1; exact g1.elim
      | some z =>
        rw [e3] at g1
        unfold listV at e3
        split at e3
        · split at e3
          · rename_i es ok
            cases e3
            obtain ⟨a, rfl, hl, dk⟩ := rq_dict (o1.rq E1 e1)
            refine ⟨a, es, Wof F1 G.O, rfl, ok, hl, hB ▸ dk, fun ys p r hp => ?_⟩
            refine VOut.lst (B := G.B) (W := Wof F1 G.O) (fun v H' Fl k hn nd o => ?_) hp (hB ▸ r) (by rw [List.length_map]; exact hl)
            obtain ⟨h3, o'⟩ := Go.fin g1 E1 k hn nd o
            exact h3 v o'
          · cases e3
        · cases e3
end
end PD

set_option Elab.async false
set_option linter.all false
set_option maxRecDepth 100000
set_option maxHeartbeats 4000000
/-! PDte: dicts: d[k] = v, d.setdefault(k, v), displays. -/
namespace PD
open PySem PySem.Spec PyProof.Rows L2 RZ

/-- a slot's own thing is changed -/
theorem EnvOk.mutO {G : Sg} {j : Nat} {σ : L2.St} {H : Hp} {F : Nat → List Addr} {ρ : Env} {l : Addr} {o' : HO} {d' : D} (E : EnvOk G σ ρ H F) (hσ : σ[j]? = some (some (.ref l))) (hF : F j = [l]) (ho : Own G.B (upd H l o') (Wof F G.O) (G.Γ j) (.ref l) d' [l]) :
    EnvOk G σ (ρ.set j (some d')) (upd H l o') F ∧ Evo H F (upd H l o') F [] := by
  have hW : Wof F G.O l := .inl ⟨j, by rw [hF]; exact List.mem_cons_self⟩
  have nF : ∀ i a, i ≠ j → a ∈ F i → a ≠ l := fun i a ne h q => by
    subst q
    exact ne (E.dj i j a h (by rw [hF]; exact List.mem_cons_self))
  have nO : ∀ a, G.O a → a ≠ l := fun a h q => by
    subst q
    exact E.og j a (by rw [hF]; exact List.mem_cons_self) h
  refine ⟨⟨by simpa using E.len, fun i d e => ?_, E.nd, E.dj, E.og, fun i a h => ?_, fun a h => ?_, E.pn, E.ff⟩, ⟨fun a o e n => ?_, fun a z => .inl (z.elim id fun q => nomatch q)⟩⟩
  · rcases get_set_some e with ⟨rfl, e1, _⟩ | ⟨ne, e⟩
    · cases e1
      refine ⟨_, hσ, ?_⟩
      rw [hF]
      exact ho
    · obtain ⟨v, h1, h2⟩ := E.slot i d e
      refine ⟨v, h1, Own.keep (fun a q => .inl q) d (fun a u e z => ?_) h2⟩
      rw [upd_ne]
      · exact e
      · rcases z with z | z
        · exact nF i a ne z
        · exact fun q => z (by rw [q]; exact hW)
  · obtain ⟨u, e⟩ := E.hv i a h
    by_cases q : a = l
    · subst q; exact ⟨_, upd_same⟩
    · exact ⟨u, by rw [upd_ne q]; exact e⟩
  · obtain ⟨u, e⟩ := E.oh a h
    exact ⟨u, by rw [upd_ne (nO a h)]; exact e⟩
  · rw [upd_ne]
    · exact e
    · exact fun q => n j (by rw [q, hF]; exact List.mem_cons_self)
def sPutK (j : Nat) (fv fk : Env → Res D) : Env → SR := fun ρ => bS (fv ρ) fun v ρ1 => match slotD ρ1 j with
  | some (.dict _) => bS (fk ρ1) fun k ρ2 => match slotD ρ2 j with
    | some (.dict es) => if kindOk es k = true ∧ es.length < lim then .nx (ρ2.set j (some (.dict (putD es k v)))) else .err
    | _ => .err
  | _ => .err
def eSetd (j : Nat) (fk fv : Env → Res D) : Env → Res D := fun ρ => match slotD ρ j with
  | some (.dict _) => bnd (fk ρ) fun k ρ1 => bnd (fv ρ1) fun v ρ2 => match slotD ρ2 j with
    | some (.dict es) => if kindOk es k = true ∧ es.length < lim then (match lookD es k with
      | some d => .ok d ρ2
      | none => .ok v (ρ2.set j (some (.dict (putD es k v))))) else .err
    | _ => .err
  | _ => .err
section
variable {X : Cx} {G : Sg} {W : WX} {tr : T} {o i e f value d : Expr} {pos pos' apos cpos p : Pos} {td ty tx tv : TE} {fk fv : Env → Res D} {x : Str} {j : Nat}
theorem ps_nput (hu : X.A.units + 64 < cLine) (ho : PE X o td) (hi : PE X i ty) (hv : PE X value tv) (hs : swapsWith value (some (.Subscript o i pos')) pos.line X.env = pure false) :
    PS X (.Assign [.Subscript o i pos'] value pos) (fun D σ H => tv σ H fun v H1 => td σ H1 fun x H2 => ty σ H2 fun y H3 => ∃ a H4, x = .ref a ∧ NPut X H3 a y v H4 ∧ D.nx σ H4) := by
  refine ⟨fun pins s σ H D I h => ?_⟩
  refine wpAny_Assign_Subscript (thn (hv.run pins s σ H _ I h) fun r s1 ⟨v, H1, I1, rv, q1⟩ => thn (ho.run pins s1 σ H1 _ I1 q1) fun u s2 ⟨x, H2, I2, rx, q2⟩ => thn (hi.run pins s2 σ H2 _ I2 q2) fun iv s3 ⟨y, H3, I3, ry, a, H4, ex, g, q3⟩ => ?_) hs
  subst ex
  obtain rfl : u = Value.ref a := rx
  exact g pins σ s3 iv r _ _ _ (by omega) I3 ry rv fun s4 I4 => ⟨σ, H4, I4, q3⟩
theorem slot_dict {σ : L2.St} {H : Hp} {F : Nat → List Addr} {ρ : Env} {es : List (D × D)} (E : EnvOk G σ ρ H F) (hΓ : G.Γ j = .dct .fz) (q : slotD ρ j = some (.dict es)) : ∃ a, σ[j]? = some (some (.ref a)) ∧ F j = [a] ∧ es.length ≤ lim ∧ Do G.B H (Wof F G.O) a es := by
  obtain ⟨v, h1, h2⟩ := E.slot j _ (slotD_some q)
  rw [hΓ] at h2
  obtain ⟨a, rfl, hF, hl, do_⟩ := Own.dct_inv h2
  exact ⟨a, h1, hF, hl, do_⟩
theorem ds_nput (hB : G.B = BOf X) (hu : X.A.units + 64 < cLine) (hΓ : G.Γ j = .dct .fz) (hN : X.N[j]? = some x) (hvis : Vis X.env.scope x) (hv : DX X G W .fz value fv) (hi : DX X G W .fz i fk)
    (hs : swapsWith value (some (.Subscript (.Name x p) i pos')) pos.line X.env = pure false := by rfl) (hd : (x == ("__debug__" : Str)) = false := by decide) (hcd : (x == ("__classdict__" : Str)) = false := by decide) :
    DS X G W tr (.Assign [.Subscript (.Name x p) i pos'] value pos) (sPutK j fv fk) :=
  PS.imp (ps_nput hu (pe_var hN hvis hd hcd) hi hv hs) fun Dn σ H ⟨F, ρ, E, g⟩ => sX_bind E g fun v dv ρ1 H1 F1 Fl fo E1 o g1 v1 => by
    obtain ⟨rfl, r1⟩ := Own.fz_inv o
    rw [Sg.add_nil] at E1 r1
    cases q : slotD ρ1 j with
    | none => rw [q] at g1; exact g1.elim
    | some d1 =>
      rw [q] at g1
      cases d1 with
      | dict es1 =>
        obtain ⟨a, hσ, hF, _, _⟩ := slot_dict E1 hΓ q
        refine ⟨.ref a, hσ, sX_bind E1 g1 fun y dk ρ2 H2 F2 Fl fo E2 o2 g2 v2 => ?_⟩
        obtain ⟨rfl, r2⟩ := Own.fz_inv o2
        rw [Sg.add_nil] at E2 r2
        cases q2 : slotD ρ2 j with
        | none => rw [q2] at g2; exact g2.elim
        | some d2 =>
          rw [q2] at g2
          cases d2 with
          | dict es =>
            simp only at g2
            split at g2
            · rename_i ok
              obtain ⟨a2, hσ2, hF2, hl, do_⟩ := slot_dict E2 hΓ q2
              rw [hσ] at hσ2
              cases hσ2
              have hW : Wof F2 G.O a := .inl ⟨j, by rw [hF2]; exact List.mem_cons_self⟩
              obtain ⟨o', np, do', _⟩ := nput_of (X := X) (H := H2) (W := Wof F2 G.O) (v := v) hB hW do_ r2 (r1.evo v2) ok.1 ok.2
              refine ⟨a, _, rfl, np, ?_⟩
              obtain ⟨E3, ev⟩ := E2.mutO (o' := o') (d' := .dict (putD es dk dv)) hσ hF2 (by rw [hΓ]; exact Own.dct_of (by have := putD_length es dk dv; have := ok.2; omega) do')
              exact g2 σ _ F2 ev E3
            · exact g2.elim
          | _ => exact g2.elim
      | _ => exact g1.elim
def tNSetd (X : Cx) (td ty tx : TE) : TE := fun σ H Q => td σ H fun x H1 => ∃ a, x = .ref a ∧ IsDN (BOf X) H1 a ∧ ty σ H1 fun y H2 => tx σ H2 fun v H3 => ∃ z H4, NSetd X H3 a y v z H4 ∧ Q z H4
theorem pe_nsetd (hu : X.A.units + 64 < cLine) (ho : PE X o td) (he : PE X e ty) (hf : PE X f tx) (m : M2 X o "setdefault" apos e f cpos) : PE X (.Call (.Attribute o "setdefault" apos) [e, f] [] cpos) (tNSetd X td ty tx) := by
  refine ⟨fun pins s σ H Q I h => ?_⟩
  refine wpAny_Call_method m.base m.few m.line PySem.F.plainAttrs_dict PySem.F.slot_dict_setdefault PySem.F.type_dict_setdefault (thn (ho.run pins s σ H _ I h) fun u s1 ⟨x, H1, I1, rx, a, ex, d, q1⟩ => ?_)
  subst ex
  obtain rfl : u = Value.ref a := rx
  obtain ⟨t1, t2, _⟩ := isDN_at I1 d
  refine ⟨t1, t2, ?_⟩
  rw [m.trees]
  refine Calls.callWith_builtin rfl (Calls.evalArgs_plain (Calls.spliced_cons (thn (he.run pins s1 σ H1 _ I1 q1) fun iv s2 ⟨y, H2, I2, ry, q2⟩ =>
    Calls.spliced_cons (thn (hf.run pins s2 σ H2 _ I2 q2) fun fv s3 ⟨v, H3, I3, rv, z, H4, g, q3⟩ => Calls.spliced_nil ?_))))
  exact (g pins σ s3 iv fv _ _ _ (by omega) I3 ry rv fun w s4 I4 rw' => ⟨z, H4, I4, rw', q3⟩).2
theorem dx_nsetd (hB : G.B = BOf X) (hu : X.A.units + 64 < cLine) (hΓ : G.Γ j = .dct .fz) (hN : X.N[j]? = some x) (hvis : Vis X.env.scope x) (he : DX X G W .fz e fk) (hf : DX X G W .fz f fv) (m : M2 X (.Name x p) "setdefault" apos e f cpos)
    (hd : (x == ("__debug__" : Str)) = false := by decide) (hcd : (x == ("__classdict__" : Str)) = false := by decide) :
    DX X G W .fz (.Call (.Attribute (.Name x p) "setdefault" apos) [e, f] [] cpos) (eSetd j fk fv) :=
  PE.imp (pe_nsetd hu (pe_var hN hvis hd hcd) he hf m) fun σ H Q ⟨F, ρ, E, g⟩ => by
    unfold eSetd at g
    cases q : slotD ρ j with
    | none => rw [q] at g; exact g.elim
    | some d1 =>
      rw [q] at g
      cases d1 with
      | dict es1 =>
        obtain ⟨a, hσ, hF, _, do1⟩ := slot_dict E hΓ q
        refine ⟨.ref a, hσ, a, rfl, ⟨es1, _, hB ▸ do1.dk⟩, tX_bind E g fun y dk ρ1 H1 F1 E1 r1 g1 v1 => tX_bind E1 g1 fun v dv ρ2 H2 F2 E2 r2 g2 v2 => ?_⟩
        cases q2 : slotD ρ2 j with
        | none => rw [q2] at g2; exact g2.elim
        | some d2 =>
          rw [q2] at g2
          cases d2 with
          | dict es =>
            simp only at g2
            split at g2
            · rename_i ok
              obtain ⟨a2, hσ2, hF2, hl, do_⟩ := slot_dict E2 hΓ q2
              rw [hσ] at hσ2
              cases hσ2
              have hW : Wof F2 G.O a := .inl ⟨j, by rw [hF2]; exact List.mem_cons_self⟩
              obtain ⟨o', np, do', sd⟩ := nput_of (X := X) (H := H2) (W := Wof F2 G.O) (y := y) (v := v) hB hW do_ (r1.evo v2) r2 ok.1 ok.2
              cases hlk : lookD es dk with
              | some d0 =>
                rw [hlk] at sd g2
                obtain ⟨v0, r0, sd⟩ := sd
                exact ⟨v0, H2, sd, Go.done g2 E2 v0 (.fz (by rw [Sg.add_nil]; exact r0))⟩
              | none =>
                rw [hlk] at sd g2
                refine ⟨v, _, sd, ?_⟩
                obtain ⟨E3, ev⟩ := E2.mutO (o' := o') (d' := .dict (putD es dk dv)) hσ hF2 (by rw [hΓ]; exact Own.dct_of (by have := putD_length es dk dv; have := ok.2; omega) do')
                refine g2 _ F2 [] ev FlOk.nil (by rw [Sg.add_nil]; exact E3) v ?_
                rw [Sg.add_nil]
                exact .fz (r2.updW hW)
            · exact g2.elim
          | _ => exact g2.elim
      | _ => exact g.elim
/-! ### displays -/
def eDict0 : Env → Res D := fun ρ => .ok (.dict []) ρ
theorem dx_dict0 : DX X G W (.dct .fz) (.Dict [] [] pos) eDict0 := PE.imp pe_dnewK fun σ H Q ⟨F, ρ, E, g⟩ p hp => by
  have ex : Ext H (upd H p (.dK [])) := ext_upd hp
  obtain ⟨h3, o'⟩ := Go.fin (Fl := [p]) (v := .ref p) (t := .dct .fz) g E ex (fun a h => by rw [List.mem_singleton.mp h]; exact hp) (by simp) (Own.dct_of (Nat.zero_le _) (.inl ⟨[], upd_same, .nil⟩))
  exact h3 _ o'
/-- one entry, its key a number or a text -/
def eDict1 (fk fv : Env → Res D) : Env → Res D := fun ρ => bnd (noX (fk ρ)) fun k ρ1 => bnd (noX (fv ρ1)) fun v ρ2 => if simpleK k = true then .ok (.dict [(k, v)]) ρ2 else .err
theorem dx_dict1 {k v : Expr} (hk : ∀ O : Wr, DX X (G.wO O) W0 .fz k fk) (hv : ∀ O : Wr, DX X (G.wO O) W0 .fz v fv) : DX X G W (.dct .fz) (.Dict [some k] [v] pos) (eDict1 fk fv) :=
  PE.imp (pe_disp (pps_cons (PE.ex hk) (PE.ex hv) pps_nil) rfl rfl (fun z => by cases z) (show 1 ≤ 15 by decide)) fun σ H Q ⟨F, ρ, E, g⟩ p hp => by
    unfold eDict1 at g
    obtain ⟨dk, ρ1, e1, g⟩ := Go.ok_of g
    obtain ⟨dv, ρ2, e2, g⟩ := Go.ok_of g
    have E0 : EnvOk (G.add [p]) σ ρ (upd H p (.dK [])) F := E.new hp (ext_upd hp) ⟨_, upd_same⟩
    refine ⟨(G.add [p]).O, F, ρ, E0, ?_⟩
    rw [e1]
    intro H1 F1 Fl1 v1 f1 E1 x ox
    obtain ⟨rfl, rx⟩ := Own.fz_inv ox
    have E1 : EnvOk (G.add [p]) σ ρ1 H1 F1 := by
      have := E1
      rw [Sg.add_nil] at this
      exact this
    have rx : Rp G.B H1 (Wof F1 (G.add [p]).O) x dk := by
      have := rx
      rw [Sg.add_nil] at this
      exact this
    refine ⟨(G.add [p]).O, F1, ρ1, E1, ?_⟩
    rw [e2]
    intro H2 F2 Fl2 v2 f2 E2 y oy
    obtain ⟨rfl, ry⟩ := Own.fz_inv oy
    have E2 : EnvOk (G.add [p]) σ ρ2 H2 F2 := by
      have := E2
      rw [Sg.add_nil] at this
      exact this
    have ry : Rp G.B H2 (Wof F2 (G.add [p]).O) y dv := by
      have := ry
      rw [Sg.add_nil] at this
      exact this
    have nA : ∀ {F' : Nat → List Addr} {H' : Hp} {ρ' : Env}, EnvOk (G.add [p]) σ ρ' H' F' → ∀ j, p ∉ F' j := fun E j h => E.og j p h (.inr List.mem_cons_self)
    have h1 : H1 p = some (.dK []) := v1.keep p _ upd_same (nA E0)
    have h2 : H2 p = some (.dK []) := v2.keep p _ h1 (nA E1)
    split at g
    · rename_i sk
      obtain ⟨key, rfl⟩ := simple_key sk
      refine ⟨h2, [(key, y)], ?_, (show 1 ≤ 15 by decide), ?_⟩
      · have := rx.key
        subst this
        rfl
      · have ev : Evo H F H2 F2 [p] := by
          have q := (Evo.one (F := F) (ext_upd (o := .dK []) hp) hp).drop.trans (v1.trans v2)
          exact ⟨q.keep, fun a z => z.elim (fun z => q.new a (.inl z)) fun z => .inr (by rw [List.mem_singleton.mp z]; exact hp)⟩
        have hO : ∀ a, (G.add [p]).O a → a ≠ p → G.O a := fun a h n => h.elim id fun z => absurd (List.mem_singleton.mp z) n
        have E3 := E2.updO (o := .dK (mergeK [] [(key, y)])) (p := p) (.inr List.mem_cons_self)
        have ry3 : Rp G.B (upd H2 p (.dK (mergeK [] [(key, y)]))) (Wof F2 (G.add [p]).O) y dv := ry.updW (.inr (.inr List.mem_cons_self))
        have ev3 : Evo H F (upd H2 p (.dK (mergeK [] [(key, y)]))) F2 [p] := by
          refine ⟨fun a o e n => ?_, ev.new⟩
          rw [upd_ne (fun z => by rw [z, hp] at e; cases e)]
          exact ev.keep a o e n
        refine g _ F2 [p] ev3 ⟨by simp, fun a h q => ?_⟩ E3 (.ref p) (Own.dct_of (show 1 ≤ lim by decide) (.inl ⟨_, upd_same, .cons ry3 .nil⟩))
        rw [List.mem_singleton.mp h] at q
        obtain ⟨o, e⟩ := E.oh p q
        rw [hp] at e; cases e
    · exact g.elim
end
end PD

set_option Elab.async false
set_option linter.all false
set_option maxRecDepth 100000
set_option maxHeartbeats 4000000
/-! PDtf: a dict walked: for k in d, [.. for k in d]. -/
namespace PD
open PySem PySem.Spec PyProof.Rows L2 RZ

section
variable {G : Sg} {W : WX} {tr : T} {σ : L2.St} {ρ : Env} {H : Hp} {F : Nat → List Addr} {a : Addr} {x y u : HO} {Dn : Ends}
theorem rd_swap (k : ∀ u, Nz u → Rd H a u → Rd (upd H a y) a u) {b : Addr} {u : HO} (nz : Nz u) (h : Rd H b u) : Rd (upd H a y) b u := by
  by_cases e : b = a
  · subst e; exact k u nz h
  · rcases h with h | ⟨o, h⟩
    · exact .inl (by rw [upd_ne e]; exact h)
    · exact .inr ⟨o, by rw [upd_ne e]; exact h⟩
theorem Own.swap {B : Bs} {W : Wr} {t : T} {v : V} {d : D} {Fl : List Addr} (h : Own B H W t v d Fl) (nf : a ∉ Fl) (k : ∀ u, Nz u → Rd H a u → Rd (upd H a y) a u) : Own B (upd H a y) W t v d Fl :=
  Own.keepR (fun b u nz r _ => rd_swap k nz r) (fun b q => .inl q) d (fun b o e hb => by
    rw [upd_ne (show b ≠ a from fun z => nf (by rw [← z]; exact hb))]
    exact e) h
theorem EnvOk.swap (E : EnvOk G σ ρ H F) (na : ∀ i, a ∉ F i) (k : ∀ u, Nz u → Rd H a u → Rd (upd H a y) a u) : EnvOk G σ ρ (upd H a y) F where
  len := E.len
  slot := fun i d e => by
    obtain ⟨v, h1, h2⟩ := E.slot i d e
    exact ⟨v, h1, h2.swap (na i) k⟩
  nd := E.nd
  dj := E.dj
  og := E.og
  hv := fun i b h => by
    obtain ⟨o, e⟩ := E.hv i b h
    exact ⟨o, by rw [upd_ne (show b ≠ a from fun z => na i (by rw [← z]; exact h))]; exact e⟩
  oh := fun b h => by
    by_cases z : b = a
    · subst z; exact ⟨y, upd_same⟩
    · obtain ⟨o, e⟩ := E.oh b h
      exact ⟨o, by rw [upd_ne z]; exact e⟩
  pn := E.pn
  ff := E.ff
theorem lock_rd {od : Obj} (hu : H a = some u) (nz : Nz u) : ∀ v, Nz v → Rd H a v → Rd (upd H a (.frz od u)) a v := fun v nv h => by
  rcases h with h | ⟨o, h⟩
  · rw [hu] at h
    cases h
    exact .inr ⟨od, upd_same⟩
  · rw [hu] at h
    cases h
    exact nz.elim
theorem unlock_rd {od : Obj} (hu : H a = some (.frz od u)) : ∀ v, Nz v → Rd H a v → Rd (upd H a u) a v := fun v nv h => by
  rcases h with h | ⟨o, h⟩
  · rw [hu] at h
    cases h
    exact nv.elim
  · rw [hu] at h
    cases h
    exact .inl upd_same
abbrev lockEnds (a : Addr) (od : Obj) (u : HO) (D : Ends) : Ends := ⟨fun σ' H' => H' a = some (.frz od u) ∧ D.nx σ' (upd H' a u), fun v H' => H' a = some (.frz od u) ∧ D.rt v (upd H' a u), fun σ' H' => H' a = some (.frz od u) ∧ D.bk σ' (upd H' a u), fun σ' H' => H' a = some (.frz od u) ∧ D.ct σ' (upd H' a u)⟩
def sNX (m : SR) : SR := match m with
  | .exc _ _ => .err
  | m => m
theorem lock_evo {od : Obj} {H' : Hp} {F' : Nat → List Addr} {Fl : List Addr} (hu : H a = some u) (na : ∀ i, a ∉ F i) (ev : Evo (upd H a (.frz od u)) F H' F' Fl) : H' a = some (.frz od u) ∧ (∀ i, a ∉ F' i) ∧ a ∉ Fl ∧ Evo H F (upd H' a u) F' Fl := by
  have h1 : H' a = some (.frz od u) := ev.keep a _ upd_same na
  have new : ∀ b, ((∃ i, b ∈ F' i) ∨ b ∈ Fl) → b ≠ a := fun b z e => by
    subst e
    rcases ev.new b z with ⟨j, hj⟩ | q
    · exact na j hj
    · rw [upd_same] at q; cases q
  refine ⟨h1, fun i h => new a (.inl ⟨i, h⟩) rfl, fun h => new a (.inr h) rfl, fun b o e n => ?_, fun b z => ?_⟩
  · by_cases q : b = a
    · subst q
      rw [hu] at e
      cases e
      exact upd_same
    · rw [upd_ne q]
      exact ev.keep b o (by rw [upd_ne q]; exact e) n
  · have nb := new b z
    rcases ev.new b z with q | q
    · exact .inl q
    · rw [upd_ne nb] at q
      exact .inr q
theorem GoS.locked {m : SR} (g : GoS G W tr (sNX m) H F Dn) (na : ∀ i, a ∉ F i) (hu : H a = some u) (od : Obj) : GoS G W0 tr (sNX m) (upd H a (.frz od u)) F (lockEnds a od u Dn) := by
  cases m with
  | nx ρ' =>
    intro σ' H' F' ev E'
    obtain ⟨h1, nf, _, ev2⟩ := lock_evo hu na ev
    exact ⟨h1, g σ' _ F' ev2 (E'.swap nf (unlock_rd h1))⟩
  | ret d ρ' =>
    intro σ' H' F' Fl ev fo E' v o
    obtain ⟨h1, nf, nl, ev2⟩ := lock_evo hu na ev
    exact ⟨h1, g σ' _ F' Fl ev2 fo (E'.swap nf (unlock_rd h1)) v (o.swap nl (unlock_rd h1))⟩
  | brk ρ' =>
    intro σ' H' F' ev E'
    obtain ⟨h1, nf, _, ev2⟩ := lock_evo hu na ev
    exact ⟨h1, g σ' _ F' ev2 (E'.swap nf (unlock_rd h1))⟩
  | ct ρ' =>
    intro σ' H' F' ev E'
    obtain ⟨h1, nf, _, ev2⟩ := lock_evo hu na ev
    exact ⟨h1, g σ' _ F' ev2 (E'.swap nf (unlock_rd h1))⟩
  | exc c ρ' => exact g
  | err => exact g
theorem Go.locked {α : Type} {m : Res α} {K : α → Env → Hp → (Nat → List Addr) → List Addr → Prop} (g : Go G W σ (noX m) H F K) (na : ∀ i, a ∉ F i) (hu : H a = some u) (od : Obj) :
    Go G W0 σ (noX m) (upd H a (.frz od u)) F fun b ρ' H' F' Fl => H' a = some (.frz od u) ∧ a ∉ Fl ∧ K b ρ' (upd H' a u) F' Fl := by
  cases m with
  | ok b ρ' =>
    intro H' F' Fl ev fo E'
    obtain ⟨h1, nf, nl, ev2⟩ := lock_evo hu na ev
    exact ⟨h1, nl, g _ F' Fl ev2 fo (E'.swap nf (unlock_rd h1))⟩
  | exc c ρ' => exact g
  | err => exact g
/-- the keys of the dict in slot i: numbers or texts -/
def simpOk (es : List (D × D)) : Bool := es.all fun p => simpleK p.1 && match p.1 with
  | .str x => decide (x.length ≤ lim)
  | _ => true
def iK (i : Nat) : Env → Res (List D) := fun ρ => match slotD ρ i with
  | some (.dict es) => if simpOk es = true then .ok (es.map (·.1)) ρ else .err
  | _ => .err
theorem simp_dK {B : Bs} {W : Wr} {v : V} {es : List (D × D)} (ok : simpOk es = true) (r : Rp B H W v (.dict es)) : ∃ a kvs, v = .ref a ∧ Rd H a (.dK kvs) ∧ ¬ W a ∧ es.length ≤ lim ∧ RpK B H W kvs es := by
  cases r with
  | dK r n l q => exact ⟨_, _, rfl, r, n, l, q⟩
  | dT z r n l q =>
    cases es with
    | nil => exact absurd rfl z
    | cons p es =>
      unfold simpOk at ok
      have h1 := List.all_eq_true.mp ok p List.mem_cons_self
      rw [Bool.and_eq_true] at h1
      rw [q.tups p List.mem_cons_self] at h1
      exact nomatch h1.1
theorem walks_keys {kvs : List (Key × V)} {es : List (D × D)} {od : Obj} (hl : H a = some (.frz od (.dK kvs))) (na : ¬ Wof F G.O a) (ok : simpOk es = true) (r : RpK G.B H (Wof F G.O) kvs es) : Walks G (Itk a od kvs) (es.map (·.1)) H F := by
  intro P H' F' hP ev hW i
  have h1 : H' a = some (.frz od (.dK kvs)) := ev.keep a _ hl fun j hj => na (.inl ⟨j, hj⟩)
  have hlen := r.length
  refine ⟨fun hi => ?_, fun hi => ⟨h1, by rw [hlen]; simpa using hi⟩⟩
  rw [List.length_map] at hi
  refine ⟨⟨h1, by rw [hlen]; exact hi⟩, fun x H'' ⟨eH, k, v, hk, hx⟩ => ?_⟩
  subst eH hx
  refine ⟨fun _ _ z => z, ?_⟩
  have at_ : ∀ {es : List (D × D)} {kvs : List (Key × V)}, RpK G.B H (Wof F G.O) kvs es → ∀ (i : Nat), kvs[i]? = some (k, v) → ∃ d, es[i]? = some (keyD k, d) := by
    intro es
    induction es with
    | nil => intro kvs r i h; cases r; simp at h
    | cons p es ih =>
      intro kvs r i h
      cases r with
      | cons r0 b =>
        cases i with
        | zero =>
          simp only [List.getElem?_cons_zero, Option.some.injEq] at h
          cases h
          exact ⟨_, rfl⟩
        | succ i =>
          simp only [List.getElem?_cons_succ] at h ⊢
          exact ih b i h
  obtain ⟨d, hd⟩ := at_ r i hk
  refine ⟨keyD k, by rw [List.getElem?_map, hd]; rfl, Rp.ofKey fun z hz => ?_⟩
  subst hz
  unfold simpOk at ok
  have h2 := List.all_eq_true.mp ok _ (List.mem_of_getElem? hd)
  rw [Bool.and_eq_true] at h2
  exact of_decide_eq_true h2.2
theorem iKeys_of {i : Nat} {kvs : List (Key × V)} {od : Obj} {R : It → Hp → Prop} (hΓ : G.Γ i = .fz) (hσ : σ[i]? = some (some (.ref a))) (hl : H a = some (.frz od (.dK kvs))) (h : tI G W (iK i) σ H R) : iKeys (tVar i) σ H R := by
  obtain ⟨F, ρ, E, g⟩ := h
  unfold iK at g
  cases q : slotD ρ i with
  | none => rw [q] at g; exact g.elim
  | some d =>
    rw [q] at g
    cases d with
    | dict es =>
      simp only at g
      split at g
      · rename_i ok
        obtain ⟨v, h1, h2⟩ := E.slot i _ (slotD_some q)
        rw [hσ] at h1
        cases h1
        rw [hΓ] at h2
        obtain ⟨_, r⟩ := Own.fz_inv h2
        obtain ⟨a', kvs', e1, rd, na, hlen, rk⟩ := simp_dK ok r
        cases e1
        have : kvs' = kvs := by
          rcases rd with rd | ⟨o, rd⟩
          · rw [hl] at rd; cases rd
          · rw [hl] at rd; cases rd; rfl
        subst this
        exact ⟨.ref a, hσ, a, od, rfl, .inl ⟨kvs', hl, Go.done g E rfl (by rw [List.length_map]; exact hlen) _ (walks_keys hl na ok rk)⟩⟩
      · exact g.elim
    | _ => exact g.elim
/-- what is to be locked -/
theorem slot_lock {i : Nat} {es : List (D × D)} (E : EnvOk G σ ρ H F) (hΓ : G.Γ i = .fz) (q : slotD ρ i = some (.dict es)) (ok : simpOk es = true) : ∃ a kvs, σ[i]? = some (some (.ref a)) ∧ Rd H a (.dK kvs) ∧ ∀ j, a ∉ F j := by
  obtain ⟨v, h1, h2⟩ := E.slot i _ (slotD_some q)
  rw [hΓ] at h2
  obtain ⟨_, r⟩ := Own.fz_inv h2
  obtain ⟨a, kvs, rfl, rd, na, _, _⟩ := simp_dK ok r
  exact ⟨a, kvs, h1, rd, fun j hj => na (.inl ⟨j, hj⟩)⟩
theorem GoS.nx0 {m : SR} (g : GoS G W tr (sNX m) H F Dn) : GoS G W0 tr (sNX m) H F Dn := by cases m <;> exact g
theorem Go.nx0 {α : Type} {m : Res α} {K : α → Env → Hp → (Nat → List Addr) → List Addr → Prop} (g : Go G W σ (noX m) H F K) : Go G W0 σ (noX m) H F K := by cases m <;> exact g
end
theorem ps_or {X : Cx} {st : Stmt} {t t' : TS} (h : PS X st t) (h' : PS X st t') : PS X st fun D σ H => t D σ H ∨ t' D σ H := ⟨fun pins s σ H D I q => q.elim (h.run pins s σ H D I) (h'.run pins s σ H D I)⟩
theorem pe_or_ {X : Cx} {e : Expr} {t t' : TE} (h : PE X e t) (h' : PE X e t') : PE X e fun σ H Q => t σ H Q ∨ t' σ H Q := ⟨fun pins s σ H Q I q => q.elim (h.run pins s σ H Q I) (h'.run pins s σ H Q I)⟩
/-- the loop over the keys of the dict in slot i -/
def sForK (T : Tg) (i : Nat) (body : Env → SR) : Env → SR := fun ρ => match slotD ρ i with
  | some (.dict es) => if simpOk es = true then sNX (forGo T body (es.map (·.1)) ρ) else .err
  | _ => .err
section
variable {X : Cx} {G : Sg} {W : WX} {tr : T} {tg : Expr} {body : List Stmt} {x : Str} {pos p : Pos} {i : Nat} {T' : Tg} {m : Env → SR}
theorem sForK_eq {i : Nat} {ρ : Env} {es : List (D × D)} (q : slotD ρ i = some (.dict es)) (ok : simpOk es = true) : sForK T' i m ρ = sNX (sFor T' (iK i) m ρ) := by
  unfold sForK sFor iK
  simp only [q, ok, if_true, bS_ok]
theorem tFor_imp {wi wi' : TI} {g : TG} {tb : TS} {D : Ends} {σ : L2.St} {H : Hp} (h : tFor wi g tb D σ H) (k : ∀ R, wi σ H R → wi' σ H R) : tFor wi' g tb D σ H := k _ h
theorem tS_nx {f : Env → SR} {Dn : Ends} {σ : L2.St} {H : Hp} {F : Nat → List Addr} {ρ : Env} (E : EnvOk G σ ρ H F) (g : GoS G W0 tr (sNX (f ρ)) H F Dn) : tS G W0 tr f Dn σ H := by
  refine ⟨F, ρ, E, ?_⟩
  cases q : f ρ with
  | exc c ρ' => rw [q] at g; exact g.elim
  | nx ρ' => rw [q] at g; exact g
  | ret d ρ' => rw [q] at g; exact g
  | brk ρ' => rw [q] at g; exact g
  | ct ρ' => rw [q] at g; exact g
  | err => rw [q] at g; exact g
theorem ds_forK (hpo : PassesOwn (model X.prog X.w) X.A X.env X.xe) (hc : X.calm = true) (hΓ : G.Γ i = .fz) (hN : X.N[i]? = some x) (hvis : Vis X.env.scope x) (hg : DG X G tg T') (hb : DSs X G W0 tr body m) (hs : ∀ z, foldedSetIterable (.Name x p) X.env z = pure z := by intro _; rfl)
    (hd : (x == ("__debug__" : Str)) = false := by decide) (hcd : (x == ("__classdict__" : Str)) = false := by decide) : DS X G W tr (.For tg (.Name x p) body [] pos) (sForK T' i m) :=
  PS.imp (ps_or (ps_lock (ps_for hpo hc (pi_keys (pe_var hN hvis hd hcd)) hg hb hs)) (ps_for hpo hc (pi_keys (pe_var hN hvis hd hcd)) hg hb hs)) fun Dn σ H ⟨F, ρ, E, g⟩ => by
    cases q : slotD ρ i with
    | none => unfold sForK at g; rw [q] at g; exact g.elim
    | some d =>
      cases d with
      | dict es =>
        by_cases ok : simpOk es = true
        · rw [sForK_eq q ok] at g
          obtain ⟨a, kvs, hσ, rd, na⟩ := slot_lock E hΓ q ok
          rcases rd with rd | ⟨od, rd⟩
          · refine .inl ⟨a, .dK kvs, rd, True.intro, fun od => ?_⟩
            have E1 : EnvOk G σ ρ (upd H a (.frz od (.dK kvs))) F := E.swap na (lock_rd rd True.intro)
            exact tFor_imp (for_read (tS_nx E1 (g.locked na rd od))) fun R h => iKeys_of hΓ hσ upd_same h
          · exact .inr (tFor_imp (for_read (tS_nx E g.nx0)) fun R h => iKeys_of hΓ hσ rd h)
        · unfold sForK at g
          simp only [q, ok] at g
          exact g.elim
      | _ => unfold sForK at g; rw [q] at g; exact g.elim
/-- [e for k in d] -/
def eLcK (i : Nat) (T : Tg) (cond : Env → Res Bool) (fe : Env → Res D) (vs : List Nat) : Env → Res D := fun ρ => match slotD ρ i with
  | some (.dict es) => if simpOk es = true then noX (eLc (iK i) T cond fe vs ρ) else .err
  | _ => .err
variable {elt : Expr} {ifs : List Expr} {scope : Scope} {own : List (Str × Nat)} {cond : Env → Res Bool} {fe : Env → Res D}
theorem tLc_imp {wi wi' : TI} {g : TG} {tt : TT} {te : TE} {vs : List Nat} {Q : VK} {σ : L2.St} {H : Hp} (h : tLc wi g tt te vs σ H Q) (k : ∀ R, wi σ H R → wi' σ H R) : tLc wi' g tt te vs σ H Q := k _ h
theorem dx_lcK (hc : X.calm = true) (hN : X.N.Nodup) (hΓ : G.Γ i = .fz) (hNi : X.N[i]? = some x) (hvis : Vis X.env.scope x) (ok : BlkOk X.N X.env.scope scope own) (hs : ∀ i ∈ T'.slots, i ∈ own.map (·.2)) (hf : ∀ i ∈ own.map (·.2), G.Γ i = .fz) (hp : ∀ i ∈ own.map (·.2), G.pin i = none)
    (hg : ∀ (O : Wr) (s : Shared) (H : Hp) (C : Addr) (cl : List (Str × Addr)) (fp : List Addr), DG (X.blk s H scope (compEnvC scope cl C X.env) fp) (G.wO O) tg T') (ht : ∀ (O : Wr) (s : Shared) (H : Hp) (C : Addr) (cl : List (Str × Addr)) (fp : List Addr), DTs (X.blk s H scope (compEnvC scope cl C X.env) fp) (G.wO O) W0 ifs cond)
    (he : ∀ (O : Wr) (s : Shared) (H : Hp) (C : Addr) (cl : List (Str × Addr)) (fp : List Addr), DX (X.blk s H scope (compEnvC scope cl C X.env) fp) (G.wO O) W0 .fz elt fe) (hfs : ∀ z, foldedSetIterable (.Name x p) X.env z = pure z := by intro _; rfl)
    (hd : (x == ("__debug__" : Str)) = false := by decide) (hcd : (x == ("__classdict__" : Str)) = false := by decide) :
    DX X G W (.lst .fz) (.ListComp elt [⟨tg, .Name x p, ifs, 0⟩] scope pos) (eLcK i T' cond fe (own.map (·.2))) := by
  have core := pe_lc (pos := pos) hc hN (pi_keys (pe_var (pos := p) hNi hvis hd hcd)) ok (fun s H C cl fp => PG.ex fun O => hg O s H C cl fp) (fun s H C cl fp => PTs.ex fun O => ht O s H C cl fp) (fun s H C cl fp => PE.ex fun O => he O s H C cl fp) hfs
  refine PE.imp (pe_or_ (pe_lock core) core) fun σ H Q ⟨F, ρ, E, g⟩ => ?_
  cases q : slotD ρ i with
  | none => unfold eLcK at g; rw [q] at g; exact g.elim
  | some d =>
    cases d with
    | dict es =>
      by_cases ok : simpOk es = true
      · unfold eLcK at g
        simp only [q, ok, if_true] at g
        obtain ⟨a, kvs, hσ, rd, na⟩ := slot_lock E hΓ q ok
        have nx : ∀ {H : Hp} {K : D → Env → Hp → (Nat → List Addr) → List Addr → Prop}, Go G W0 σ (noX (eLc (iK i) T' cond fe (own.map (·.2)) ρ)) H F K → Go G W0 σ (eLc (iK i) T' cond fe (own.map (·.2)) ρ) H F K := fun {H K} g => by
          cases qe : eLc (iK i) T' cond fe (own.map (·.2)) ρ with
          | ok b ρ' => rw [qe] at g; exact g
          | exc c ρ' => rw [qe] at g; exact g.elim
          | err => rw [qe] at g; exact g
        rcases rd with rd | ⟨od, rd⟩
        · refine .inl ⟨a, .dK kvs, rd, True.intro, fun od => ?_⟩
          have E1 : EnvOk G σ ρ (upd H a (.frz od (.dK kvs))) F := E.swap na (lock_rd rd True.intro)
          exact tLc_imp (lc_read hs hf hp ⟨F, ρ, E1, (nx (Go.locked g na rd od)).imp fun d ρ' H' F' Fl ⟨h1, nl, h2⟩ v o => ⟨h1, h2 v (o.swap nl (unlock_rd h1))⟩⟩) fun R h => iKeys_of hΓ hσ upd_same h
        · exact .inr (tLc_imp (lc_read hs hf hp ⟨F, ρ, E, nx (Go.nx0 g)⟩) fun R h => iKeys_of hΓ hσ rd h)
      · unfold eLcK at g
        simp only [q, ok] at g
        exact g.elim
    | _ => unfold eLcK at g; rw [q] at g; exact g.elim
end
end PD

set_option Elab.async false
set_option linter.all false
set_option maxRecDepth 100000
set_option maxHeartbeats 4000000
/-! PDua: enumerate of a tuple. -/
namespace PD
open PySem PySem.Spec PyProof.Rows L2 RZ

theorem meets_enum1 {v : Value} {o : Obj} {H : Heap → Prop} (B : Begins v o H) :
    Meets (Builtin.«enumerate.__new__» ⟨[.type "enumerate", v], []⟩) (fun _ R s => H s.heap ∧
      R (.ok (.ret (.ref (s.heap.push o).objs.size))) { s with heap := (s.heap.push o).push { cls := .type "enumerate", data := .fields #[.none, .bool false, .ref s.heap.objs.size, rawInt 0, .none, .none] } }) :=
  .of_wp fun prog w A R s h => by
    obtain ⟨hp, g, d, tk, os⟩ := s; obtain ⟨h1, h⟩ := h
    have hsub := sub_enumerate
    have q1 : ∀ {A' : Around} {E : Value → Shared → Prop} {Q : Value → Shared → Prop}, Q (.ref hp.objs.size) ⟨hp.push o, g, d, tk, os⟩ → wpAny (model prog w) A' (pyIter v) Q E ⟨hp, g, d, tk, os⟩ :=
      fun q => B.iter prog w _ _ ⟨hp, g, d, tk, os⟩ _ h1 q
    wp_walk using q1
    refine wpAny_stack_any fun st => wpAny_pure ?_
    split
    · rename_i c _ _ _ _ _
      cases (c == Value.type "enumerate")
      · wp_walk using q1
        exact ⟨_, rfl, h⟩
      · wp_walk using q1
        exact ⟨_, rfl, h⟩
    · wp_walk using q1
      exact ⟨_, rfl, h⟩
section
variable {prog : Program} {w : World} {A : Around} {E : Value → Shared → Prop} {s : Shared}
theorem call_enum1 {v : Value} {o : Obj} {H : Heap → Prop} {Q : Value → Shared → Prop} (B : Begins v o H) (h1 : H s.heap)
    (h : ∀ h', IsEnum h' (s.heap.objs.size + 1) s.heap.objs.size 0 .none → h'.get? s.heap.objs.size = some o → h'.objs.size = s.heap.objs.size + 2 →
      (∀ b o, s.heap.get? b = some o → h'.get? b = some o) → Q (.ref (s.heap.objs.size + 1)) { s with heap := h' }) :
    wpAny (model prog w) A (call (.type "enumerate") [v]) Q E s := by
  refine callType_new F.called_enumerate (by decide) (F.typeCall_enumerate_1 _) (F.newCall_enumerate_1 _) (fun obj => F.args_object_init_2 obj _) F.entry_enumerate_new
    (meets_enum1 B) ⟨h1, ?_⟩
  have hz : (s.heap.push o).objs.size = s.heap.objs.size + 1 := Heap.size_push ..
  show _ ∧ _
  rw [hz]
  have he : IsEnum ((s.heap.push o).push { cls := .type "enumerate", data := .fields #[.none, .bool false, .ref s.heap.objs.size, rawInt 0, .none, .none] }) (s.heap.objs.size + 1) s.heap.objs.size 0 .none := by
    have := Heap.get?_push_size (s.heap.push o) (o := { cls := .type "enumerate", data := .fields #[.none, .bool false, .ref s.heap.objs.size, rawInt 0, .none, .none] }) rfl
    rw [hz] at this; exact this
  exact ⟨⟨_, he, rfl⟩, h _ he (Heap.get?_push_of_some _ (Heap.get?_push_size _ B.free)) (by rw [Heap.size_push, hz]) fun b o x => Heap.get?_push_of_some _ (Heap.get?_push_of_some _ x)⟩
end
/-- the tuple at a as it stands at each turn, the items in new pairs -/
def IteT (K : PySem.W.Frag) (a : Addr) : It :=
  ⟨fun i H => ∃ (xs : List V) (x : V), SqT K H a xs ∧ xs[i]? = some x, fun i H v H' => ∃ T x, v = .ref T ∧ H T = none ∧ H' = upd H T (.tup [.int (i : Nat), x]) ∧ ∀ xs, SqT K H a xs → xs[i]? = some x, fun i H => ∃ xs : List V, SqT K H a xs ∧ xs.length ≤ i⟩
theorem turn_enumT {P : Program} {w : World} {K : PySem.W.Frag} {elts : List Expr} {kk : Nat} {tpos : Pos} (a e it : Addr) :
    Turn P w K (.Tuple elts kk tpos) (IteT K a) [e, it] e (fun i h => (∃ old, IsEnum h e it ((i : Nat) : Int) old) ∧ h.IsTupleIter it a i ∧ e ≠ it ∧ a ≠ it ∧ e ≠ a) where
  mem := by simp
  obj := fun i h st b hb => by
    obtain ⟨⟨old, he⟩, ⟨o, ho, hc, hd⟩, _⟩ := st
    have e' : b = e ∨ b = it := by simpa using hb
    rcases e' with z | z
    · rw [z]; exact ⟨_, he, fun v q => nomatch q⟩
    · rw [z]; exact ⟨o, ho, fun v q => by rw [hd] at q; cases q⟩
  keep := fun i h h' st k => let ⟨⟨old, he⟩, hi, hne⟩ := st; ⟨⟨old, k e (by simp) _ he⟩, hi.at fun o q => k it (by simp) o q, hne⟩
  item := by
    intro X hP hw hK hc i pins s σ H E I hf st hg
    subst hP hw hK
    obtain ⟨⟨old, he⟩, hit, hne, hai, hea⟩ := st
    obtain ⟨xs, x, hq, hx⟩ := hg
    obtain ⟨its, rv, p, hz⟩ := I.tuple hq
    obtain ⟨u, hu, ru⟩ := rv.get hx
    have hel : e < s.heap.objs.size := Heap.lt_size he
    have hil : it < s.heap.objs.size := by obtain ⟨_, q, _⟩ := hit; exact Heap.lt_size q
    have hlt : i < its.toArray.size := by
      rw [List.size_toArray]
      exact (List.getElem?_eq_some_iff.mp hu).1
    refine wpAny_pyNext_enum_itemC (Draws.tuple (by simp [I.ok.hd hc]) it a hai its.toArray) he ⟨hit, p⟩ hlt hne (by simp only [List.mem_cons, List.not_mem_nil, or_false, not_or]; exact ⟨hne, hea⟩) fun y h' tk hy ho st' hT hsz hk => ?_
    have hit' := st'.1
    have ey : y = u := by
      have : its.toArray[i]? = some u := by simpa using hu
      rw [this] at hy
      exact (Option.some.inj hy).symm
    subst ey
    refine ⟨_, rfl, wpAny_letOwnedTupleGo_enum (s := { s with heap := h', toks := tk + 1 }) ho fun h'' he' sb => ?_⟩
    have hT2 : h''.get? s.heap.objs.size = some { cls := .type "tuple", data := .seq #[.int i tk, y] } := (sb.2 _ (Nat.ne_of_gt hel)).trans hT
    have new : ObjOk X.prog X.w (upd H s.heap.objs.size (.tup [.int (i : Nat), x])) h'' s.heap.objs.size (.tup [.int (i : Nat), x]) :=
      ⟨by show 2 ≤ sizeLine; decide, [.int i tk, y], .cons ⟨_, rfl⟩ (.cons ru .nil), ⟨_, hT2, rfl, _, rfl⟩⟩
    have I1 : Inv X pins σ (upd H s.heap.objs.size (.tup [.int (i : Nat), x])) { s with heap := h'', toks := tk + 1 } :=
      I.turnedNew (ch := [e, it]) (fun b ob hb q => (sb.2 b (fun z => hb (by simp [z]))).trans (hk b ob (fun z => hb (by simp [z])) (fun z => hb (by simp [z])) q)) hf (Nat.le_refl _) new
    refine ⟨.ref s.heap.objs.size, _, I1, rfl, ⟨_, x, rfl, I.hok.fresh (Nat.le_refl _), rfl, fun ys hy => by rw [I.tuple_inj hy hq]; exact hx⟩, ⟨⟨y, ?_⟩, hit'.at fun o q => (sb.2 it (Ne.symm hne)).trans q, hne, hai, hea⟩, fun b hb => ?_⟩
    · have e1 : ((i + 1 : Nat) : Int) = (i : Int) + 1 := by omega
      rw [e1]; exact he'
    · have hb' : b < s.heap.objs.size := by
        have e' : b = e ∨ b = it := by simpa using hb
        rcases e' with z | z
        · rw [z]; exact hel
        · rw [z]; exact hil
      rw [upd_ne (Nat.ne_of_lt hb')]
      exact (hf b hb).1
  done := by
    intro X hP hw hK hc i pins s σ H E I hf st hg
    subst hP hw hK
    obtain ⟨⟨old, he⟩, hit, hne, hai, hea⟩ := st
    obtain ⟨xs, hq, hx⟩ := hg
    obtain ⟨its, rv, p, hz⟩ := I.tuple hq
    obtain ⟨f0, f1, f2, f3, f4, f5⟩ := hf it (by simp)
    have hl := rv.length
    have hT : s.TypeIs (.ref e) "enumerate" := ⟨_, he, rfl⟩
    unfold pyNext
    refine wpAny_bind (wpAny_attempt (wpAny_callSpecial?_slot (name := Str.ofString "__next__") hT F.slot_enumerate_next
      (wpAny_call_entry F.slot_enumerate_next hT F.entry_enumerate_next ?_ (F.args_enumerate_next_1 _))))
    show wpAny _ _ (field (.ref e) 2 >>= _) _ _ _
    refine wpAny_bind (wpAny_field he rfl (x := .ref it) rfl ?_)
    refine wpAny_bind (wpAny_nextOf_tuple_end (by simp [I.ok.hd hc]) hit p (by simp; omega) fun h' x he' hx' => ?_)
    obtain ⟨o, ho, hcl⟩ := hx'
    refine wpAny_bind (wpAny_isInstance (T := "StopIteration") (b := true) ⟨o, ho, hcl⟩ isSubtype_stop ?_)
    exact wpAny_pure ⟨rfl, I.turned (t' := s.toks) (fun b o hb q => he' b o hb q) f0 f1 f3 f4 f5⟩
  self := fun A i s Q E st h => let ⟨⟨_, he⟩, _⟩ := st; wpAny_pyIter_enum he h
def iEnumA (K : PySem.W.Frag) (ta : TA) : TI := fun σ H R => ta σ H fun vs H1 => ∃ a, vs = [.ref a] ∧ ((∃ xs, SqL K H1 a xs ∧ R (Ite K a) H1) ∨ ∃ xs, SqT K H1 a xs ∧ R (IteT K a) H1)
theorem pi_enumA {X : Cx} {e : Expr} {ta : TA} {p pos tpos : Pos} {elts : List Expr} {kk : Nat} (hg : Gl X "enumerate") (hm : X.mg "enumerate" = none) (ha : PA X [e] ta) (hs : starEach [e] X.env = [(false, eval e X.env)] := by rfl) :
    PI X (.Tuple elts kk tpos) (.Call (.Name "enumerate" p) [e] [] pos) (iEnumA X.K ta) := by
  refine ⟨fun pins s σ H R I h => ?_⟩
  refine Call_ (ld_blt I hg hm boot_enumerate (PyProof.Rows.callWith_type1 (thn (ha.run pos pins s σ H _ I h) fun us s1 ⟨vs, H1, I1, r1, q1⟩ => ?_) hs rfl))
  obtain ⟨a, ex, q⟩ := q1
  subst ex
  cases r1 with
  | cons r rr =>
    cases rr
    cases r
    have fp : ∀ b, b ∈ [s1.heap.objs.size + 1, s1.heap.objs.size] → FpOk X pins H1 b := fun b hb => by
      have e' : b = s1.heap.objs.size + 1 ∨ b = s1.heap.objs.size := by simpa using hb
      have hle : s1.heap.objs.size ≤ b := by
        rcases e' with z | z
        · rw [z]; exact Nat.le_add_right _ _
        · rw [z]; exact Nat.le_refl _
      exact I1.fpOk hle (I1.hok.fresh hle)
    rcases q with ⟨xs, hq, q⟩ | ⟨xs, hq, q⟩
    · obtain ⟨its, rv, p', hz⟩ := I1.list hq
      refine call_enumerate_list p'.isList fun h' he hit hsz hk => wpAny_pyIter_enum he ?_
      have I2 : Inv X pins σ H1 { s1 with heap := h' } := I1.kept (t' := s1.toks) hk
      exact ⟨s1.heap.objs.size + 1, [s1.heap.objs.size + 1, s1.heap.objs.size], _, _, H1, rfl, I2, turn_enum a (s1.heap.objs.size + 1) s1.heap.objs.size, ⟨⟨.none, he⟩, hit, Nat.succ_ne_self _⟩, fp, q⟩
    · obtain ⟨its, rv, p', hz⟩ := I1.tuple hq
      have hlt : a < s1.heap.objs.size := by obtain ⟨o, ho, _⟩ := p'; exact Heap.lt_size ho
      refine call_enum1 (begins_tuple a its.toArray) p' fun h' he hit hsz hk => wpAny_pyIter_enum he ?_
      have I2 : Inv X pins σ H1 { s1 with heap := h' } := I1.kept (t' := s1.toks) hk
      exact ⟨s1.heap.objs.size + 1, [s1.heap.objs.size + 1, s1.heap.objs.size], _, _, H1, rfl, I2, turn_enumT a (s1.heap.objs.size + 1) s1.heap.objs.size, ⟨⟨.none, he⟩, ⟨_, hit, rfl, rfl⟩, Nat.succ_ne_self _, Nat.ne_of_lt hlt, Nat.ne_of_gt (Nat.lt_succ_of_lt hlt)⟩, fp, q⟩
section
variable {G : Sg} {H1 : Hp} {F1 : Nat → List Addr}
theorem enumD_at {ds : List D} {i : Nat} (hi : i < ds.length) : (enumD ds)[i]? = some (.tuple [.int (i : Nat), ds[i]]) := by
  unfold enumD
  rw [List.getElem?_map, List.getElem?_zipIdx, List.getElem?_eq_getElem hi]
  simp
theorem enumD_len (ds : List D) : (enumD ds).length = ds.length := by simp [enumD]
theorem walks_enumL {a : Addr} {xs : List V} {ds : List D} (rd : Rl G.B H1 (Wof F1 G.O) a xs) (q : RpAll G.B H1 (Wof F1 G.O) xs ds) : Walks G (Ite G.B.2.2 a) (enumD ds) H1 F1 := by
  intro P H' F' hP e hW i
  have s' : SqL G.B.2.2 H' a xs := rd.evo e
  rw [enumD_len]
  refine ⟨fun hi => ?_, fun hi => ⟨xs, s', by rw [q.length]; exact hi⟩⟩
  obtain ⟨v, hv, r⟩ := q.get (List.getElem?_eq_getElem hi)
  refine ⟨⟨xs, v, s', hv⟩, fun x H'' ⟨T, y, ex, hT, eH, k⟩ => ?_⟩
  have := k xs s'
  rw [hv] at this
  cases this
  subst ex eH
  exact ⟨ext_upd hT, .tuple [.int (i : Nat), ds[i]], enumD_at hi, new_pair hW hT (.int _) (r.walk hP e)⟩
theorem walks_enumT {K : PySem.W.Frag} {a : Addr} {xs : List V} {ds : List D} (rd : Rd H1 a (.tup xs)) (nw : ¬ Wof F1 G.O a) (q : RpAll G.B H1 (Wof F1 G.O) xs ds) : Walks G (IteT K a) (enumD ds) H1 F1 := by
  intro P H' F' hP e hW i
  have s' : SqT K H' a xs := .inl (rd_keep rd fun o z => e.k1 a o z nw)
  rw [enumD_len]
  refine ⟨fun hi => ?_, fun hi => ⟨xs, s', by rw [q.length]; exact hi⟩⟩
  obtain ⟨v, hv, r⟩ := q.get (List.getElem?_eq_getElem hi)
  refine ⟨⟨xs, v, s', hv⟩, fun x H'' ⟨T, y, ex, hT, eH, k⟩ => ?_⟩
  have := k xs s'
  rw [hv] at this
  cases this
  subst ex eH
  exact ⟨ext_upd hT, .tuple [.int (i : Nat), ds[i]], enumD_at hi, new_pair hW hT (.int _) (r.walk hP e)⟩
end
def enumItems : D → Option (List D)
  | .list ds => some (enumD ds)
  | .tuple ds => some (enumD ds)
  | _ => none
def iEnumD (f : Env → Res D) : Env → Res (List D) := fun ρ => bnd (f ρ) fun d ρ1 => ofO (enumItems d) ρ1
theorem di_enum {X : Cx} {G : Sg} {W : WX} {e : Expr} {f : Env → Res D} {p pos tpos : Pos} {elts : List Expr} {kk : Nat} (hB : G.B.2.2 = X.K) (hg : Gl X "enumerate") (hm : X.mg "enumerate" = none) (h : DX X G W .fz e f) (hs : starEach [e] X.env = [(false, eval e X.env)] := by rfl) :
    DI X G W (.Tuple elts kk tpos) (.Call (.Name "enumerate" p) [e] [] pos) (iEnumD f) :=
  PI.imp (pi_enumA hg hm (pa_cons h pa_nil (by exact hs)) hs) fun σ H R ⟨F, ρ, E, g⟩ => tX_bind E g fun v d ρ1 H1 F1 E1 r g1 _ => by
    cases d with
    | list ds =>
      cases r with
      | lst rd l q =>
        refine ⟨_, rfl, .inl ⟨_, hB ▸ rd.rm.sq, ?_⟩⟩
        have := Go.done g1 E1 rfl (by rw [enumD_len]; exact l) _ (walks_enumL rd q)
        rw [hB] at this
        exact this
    | tuple ds =>
      cases r with
      | tup rd nw l q => exact ⟨_, rfl, .inr ⟨_, .inl rd, Go.done g1 E1 rfl (by rw [enumD_len]; exact l) _ (walks_enumT rd nw q)⟩⟩
    | _ => exact g1.elim
end PD

set_option Elab.async false
set_option linter.all false
set_option maxRecDepth 100000
namespace PD
open PySem PySem.Spec PyProof.Rows L2 RZ PySem.W PySem.SeqAt

/-! ### min of a list of data -/
/-- data that can be compared with one another -/
def minOk (ds : List D) : Bool := ds.all (fun a => SeqAt.shaped a) && ds.all (fun a => ds.all fun b => PySem.W.alike a b) && ds.all (fun a => match a with | .none => false | _ => true)
def minLD : List D → Option D
  | [.list (x :: xs)] => if minOk (x :: xs) = true then some (PySem.W.minD x xs) else none
  | _ => none
section
variable {prog : Program} {w : World} {A : Around} {E : Value → Shared → Prop} {s : Shared}
theorem min_list_at {l : Addr} {vs : Array Value} {x : PyData} {xs : List PyData} {as : List Addr} {Q : Value → Shared → Prop} (hh : A.handled = none) (hl : s.heap.IsList l vs) (hr : ReadsAll s.heap vs.toList (x :: xs) as) (ha : AlikeAll (x :: xs)) (hu : A.units + 1 + PyData.depthAll (x :: xs) < cLine)
    (h : ∀ (i : Nat) v h' tk, vs[i]? = some v → i < (x :: xs).length → (x :: xs).getD i .none = PySem.W.minD x xs → (∀ b o, s.heap.get? b = some o → h'.get? b = some o) → Q v { s with heap := h', toks := tk }) :
    wpAny (model prog w) A (call (.builtin "min") [.ref l]) Q E s := by
  have hn : vs.size = xs.length + 1 := readsAll_len hr
  refine call_min_walkH (iter_listW (A := A.in1) hh hl fun s₂ e W st hfp hw hk => ?_)
  refine ⟨_, _, _, _, _, _, _, s.heap, _, rfl, W, st, hfp, by omega, hw, hk, cmpIn_lt (A := A.in1) hr ha (by show A.units + 1 + _ < _; exact hu), fun v s' hP m => ?_⟩
  obtain ⟨h', tk, rfl, hk'⟩ := moved_old e rfl m
  obtain ⟨bs, r, hlt, _, _⟩ := readsAll_atA hr _ v hP
  have e1 : vs.size - 1 = xs.length := by omega
  have e2 := (argBest_fold dataLt PyData.none x xs xs.length (Nat.le_refl _)).2
  rw [List.take_length] at e2
  rw [e1] at hlt hP
  exact h _ v h' tk hP hlt (by unfold PySem.W.minD; rw [← e2]) hk'
end
theorem readsAll_of {X : Cx} {pins : List (Addr × Obj)} {s : Shared} {σ : List (Option V)} {H : Hp} (I : L2.Inv X pins σ H s) {W : Wr} : ∀ {ys : List V} {ds : List D} {us : List Value}, (∀ d ∈ ds, d.canLay0 = true) → RpAll (BOf X) H W ys ds → Vals ys us → ∃ as, ReadsAll s.heap us ds as := by
  intro ys ds us hl
  induction ds generalizing ys us with
  | nil => intro h r; cases h; cases r; exact ⟨_, .nil⟩
  | cons d ds ih =>
    intro h r
    cases h with
    | cons a b =>
      cases r with
      | cons r1 r2 =>
        obtain ⟨as, e⟩ := Dp.reads I d _ _ (Rp.dp d (hl d List.mem_cons_self) a) r1
        obtain ⟨bs, e2⟩ := ih (fun d hd => hl d (List.mem_cons_of_mem _ hd)) b r2
        exact ⟨_, .cons e e2⟩
theorem rp_at {B : Bs} {H : Hp} {W : Wr} : ∀ {ys : List V} {ds : List D}, RpAll B H W ys ds → ∀ (i : Nat), i < ds.length → ∃ y, ys[i]? = some y ∧ Rp B H W y (ds.getD i .none)
  | _, [], _, i, h => absurd h (by simp)
  | _, _ :: _, h, i, hi => by
    cases h with
    | cons a b =>
      cases i with
      | zero => exact ⟨_, rfl, a⟩
      | succ i => obtain ⟨y, e, r⟩ := rp_at b i (by simpa using hi); exact ⟨y, e, r⟩
theorem depthAll_le {n : Nat} : ∀ {ds : List D}, (∀ d ∈ ds, d.depth ≤ n) → PyData.depthAll ds ≤ n
  | [], _ => Nat.zero_le _
  | d :: ds, h => Nat.max_le.mpr ⟨h d List.mem_cons_self, depthAll_le fun e he => h e (List.mem_cons_of_mem _ he)⟩
def rMinD (B : Bs) : List V → Hp → VK → Prop := fun xs H Q => ∃ (a : Addr) (ys : List V) (d : D) (ds : List D) (W : Wr), xs = [.ref a] ∧ Rm B H a ys ∧ RpAll B H W ys (d :: ds) ∧ minOk (d :: ds) = true ∧ ∀ y, Rp B H W y (PySem.W.minD d ds) → y ∈ ys → Q y H
theorem cr_minD {X : Cx} (hc : X.calm = true) (hu : X.A.units + 70 < cLine) : CallR X (.builtin "min") (rMinD (BOf X)) := by
  intro pins s σ H vs us Q I r h
  obtain ⟨a, ys, d, ds, W, rfl, hs, rp, ok, q⟩ := h
  rw [Vals.ref1 r]
  obtain ⟨its, rv, hl, hz⟩ := I.list (show SqL X.K H a ys from hs.sq)
  have ok' := ok
  unfold minOk at ok'
  simp only [Bool.and_eq_true, List.all_eq_true] at ok'
  obtain ⟨⟨shp, alk⟩, ht⟩ := ok'
  have lay : ∀ e ∈ d :: ds, e.canLay0 = true := fun e he => SeqAt.canLay_of_shaped (shp e he)
  have dpt : ∀ e ∈ d :: ds, e.depth ≤ 64 := fun e he => of_decide_eq_true (Bool.and_eq_true_iff.mp (shp e he)).2
  obtain ⟨as, R⟩ := readsAll_of I lay rp rv
  refine min_list_at (I.ok.hd hc) hl.isList R ⟨fun x hx y hy => alk x hx y hy, fun x hx e => ?_⟩ (by have := depthAll_le dpt; omega) fun i v h' tk hv hi e k => ?_
  · have := ht x hx
    rw [e] at this
    cases this
  · obtain ⟨y, hy, ry⟩ := rp_at rp i hi
    rw [e] at ry
    obtain ⟨v', hv', rel⟩ := rv.get hy
    rw [Array.getElem?_toList, hv] at hv'
    cases hv'
    exact ⟨y, H, I.kept k, rel, q y ry (List.mem_of_getElem? hy)⟩
theorem pv_minD {B : Bs} : PVn B (rMinD B) .fz minLD := by
  intro xs ds H W Q z hx hz hW k
  unfold minLD at hz
  split at hz
  · split at hz
    · rename_i d es ok
      cases hz
      obtain ⟨v, rfl, h⟩ := rqAll1 hx
      obtain ⟨a, ys, rfl, ra, la, qa⟩ := rq_list h
      exact ⟨a, ys, d, es, W, rfl, ra, qa, ok, fun y r _ => k.rp r⟩
    · cases hz
  · cases hz

/-! ### range with a step -/
def rg3D (a b c : Int) : List D := (List.range (Builtin.Range.rangeSize a b c).toNat).map fun i => .int (a + (i : Nat) * c)
def rg3Ok (a b c : Int) : Bool := decide (c ≠ 0) && decide (c.natAbs < 1073741824) && Builtin.Range.small a b c && decide (0 ≤ Builtin.Range.rangeSize a b c) && decide ((Builtin.Range.rangeSize a b c).toNat ≤ lim)
def rg3Items : D → D → D → Option (List D)
  | .int a, .int b, .int c => if rg3Ok a b c = true then some (rg3D a b c) else none
  | _, _, _ => none
def iRg3 (f g h : PD.Env → Res D) : PD.Env → Res (List D) := fun ρ => bnd (f ρ) fun d ρ1 => bnd (g ρ1) fun e ρ2 => bnd (h ρ2) fun k ρ3 => ofO (rg3Items d e k) ρ3
theorem rg3D_at {a b c : Int} {n i : Nat} (e : (Builtin.Range.rangeSize a b c).toNat = n) (h : i < n) : (rg3D a b c)[i]? = some (.int (a + (i : Nat) * c)) := by
  unfold rg3D
  rw [List.getElem?_map, List.getElem?_range (e.symm ▸ h)]
  rfl
theorem rg3D_len (a b c : Int) : (rg3D a b c).length = (Builtin.Range.rangeSize a b c).toNat := by simp [rg3D]
theorem walks_rng3 {G : Sg} {a b c : Int} {n : Nat} {H1 : Hp} {F1 : Nat → List Addr} (e : (Builtin.Range.rangeSize a b c).toNat = n) : Walks G (Itc a c n) (rg3D a b c) H1 F1 := by
  intro P H' F' hP ev hW i
  rw [rg3D_len, e]
  refine ⟨fun hi => ⟨hi, fun x H'' ⟨h1, h2⟩ => ?_⟩, fun hi => hi⟩
  subst h1 h2
  exact ⟨fun _ _ z => z, _, rg3D_at e hi, .int _⟩
section
variable {X : Cx} {G : Sg} {W : WX} {tg e e2 e3 : Expr} {f g h' : PD.Env → Res D} {p pos : Pos}
theorem di_range3 (hg : Gl X "range") (hm : X.mg "range" = none) (h : DX X G W .fz e f) (h2 : DX X G W .fz e2 g) (h3 : DX X G W .fz e3 h') (hs : starEach [e, e2, e3] X.env = (false, eval e X.env) :: starEach [e2, e3] X.env := by rfl) (hs2 : starEach [e2, e3] X.env = (false, eval e2 X.env) :: starEach [e3] X.env := by rfl) (hs3 : starEach [e3] X.env = (false, eval e3 X.env) :: starEach [] X.env := by rfl) (hpl : (backTo pos (starEach [e2, e3] X.env)).any (·.1) = false := by rfl) :
    DI X G W tg (.Call (.Name "range" p) [e, e2, e3] [] pos) (iRg3 f g h') :=
  PI.imp (pi_range3 hg hm (pa_cons h (pa_cons h2 (pa_cons h3 pa_nil hs3) hs2) hs) hs hpl) fun σ H R ⟨F, ρ, E, g0⟩ => tX_bind E g0 fun v d ρ1 H1 F1 E1 r g1 _ => tX_bind E1 g1 fun u d2 ρ2 H2 F2 E2 r2 g2 v2 => tX_bind E2 g2 fun u3 d3 ρ3 H3 F3 E3 r3 g3 v3 => by
    cases d with
    | int a =>
      cases d2 with
      | int b =>
        cases d3 with
        | int c =>
          cases r
          cases r2
          cases r3
          unfold rg3Items at g3
          simp only at g3
          split at g3
          · rename_i ok
            unfold rg3Ok at ok
            simp only [Bool.and_eq_true, decide_eq_true_eq] at ok
            exact ⟨a, b, c, _, rfl, ⟨ok.1.1.1.1, ok.1.1.1.2, ok.1.1.2, (Int.toNat_of_nonneg ok.1.2).symm⟩, Go.done g3 E3 rfl (by rw [rg3D_len]; exact ok.2) _ (walks_rng3 rfl)⟩
          · exact g3.elim
        | _ => exact g3.elim
      | _ => exact g3.elim
    | _ => exact g3.elim
end
end PD

set_option Elab.async false
set_option linter.all false
set_option maxRecDepth 100000
set_option maxHeartbeats 4000000
namespace U
open PySem PySem.Spec PyProof.Rows L2 RZ PD
def Γ__law_cell_at : Nat → T := fun _ => .fz
def body__law_cell_at : PD.Env → SR := (sSeq (sIf (bOf (eOp2 ltD (oVal (eVar 1)) (oVal (eOpN lenD (aCons (oVal (eVar 0)) aNil))))) (sRet (eOp2 ixD (oVal (eVar 0)) (oVal (eVar 1)))) sNil) (sSeq (sIf (bOf (eOp2 eqD (oVal (eVar 0)) (oVal (eLst aNil)))) (sRet (eC (.int 0))) sNil) (sRet (eOp2 addD (oVal (eOp2 mulD (oVal (eOp2 ixD (oVal (eVar 0)) (oVal (eOp2 modD (oVal (eVar 1)) (oVal (eOpN lenD (aCons (oVal (eVar 0)) aNil))))))) (oVal (eC (.int 31))))) (oVal (eVar 1))))))
def m__law_cell_at : List D → Res D := fnM none 2 0 body__law_cell_at
def Γ__law_mixed : Nat → T := fun _ => .fz
def body__law_mixed : PD.Env → SR := (sSeq (sSet 3 (eOp2 modD (oVal (eOp2 addD (oVal (eOp2 addD (oVal (eOp2 mulD (oVal (eCall 2 none m__law_cell_at (aCons (oVal (eVar 0)) (aCons (oVal (eVar 1)) aNil)))) (oVal (eC (.int 1103515245))))) (oVal (eOp2 mulD (oVal (eC (.int 7919))) (oVal (eVar 1)))))) (oVal (eC (.int 12345))))) (oVal (eC (.int 2147483647))))) (sRet (eOp2 modD (oVal (eOp2 modD (oVal (eOp2 modD (oVal (eOp2 powD (oVal (eVar 3)) (oVal (eC (.int 5))))) (oVal (eC (.int 2147483647))))) (oVal (eC (.int 999983))))) (oVal (eVar 2)))))
def m__law_mixed : List D → Res D := fnM none 3 1 body__law_mixed
def Γ__law_draw : Nat → T := fun i => match i with | 1 => .lst .fz | _ => .fz
def body__law_draw : PD.Env → SR := (sSeq (sDrop (eMut 1 appD (aCons (oVal (eC (.int 0))) aNil))) (sRet (eCall 3 none m__law_mixed (aCons (oVal (eVar 0)) (aCons (oVal (eOpN lenD (aCons (oSlot 1) aNil))) (aCons (oVal (eVar 2)) aNil))))))
def m__law_draw : List D → Res D := fnM (some 1) 3 0 body__law_draw
def Γ__law_pick : Nat → T := fun i => match i with | 1 => .lst .fz | _ => .fz
def body__law_pick : PD.Env → SR := (sRet (eOp2 ixD (oVal (eVar 2)) (oVal (eCall 3 (some (1, 1)) m__law_draw (aCons (oVal (eVar 0)) (aCons (oLend 1) (aCons (oVal (eOpN lenD (aCons (oVal (eVar 2)) aNil))) aNil)))))))
def m__law_pick : List D → Res D := fnM (some 1) 3 0 body__law_pick
def Γ_is_whole : Nat → T := fun _ => .fz
def body_is_whole : PD.Env → SR := (sRet (eAnd (eOp1 (isiD .int) (oVal (eVar 0))) (eAnd (eNot (eOp1 (isiD .bool) (oVal (eVar 0)))) (eChain leD leD (oVal (eVar 1)) (oVal (eVar 0)) (oVal (eVar 2))))))
def m_is_whole : List D → Res D := fnM none 3 0 body_is_whole
def Γ_is_rising : Nat → T := fun _ => .fz
def le_is_rising_1 : PD.Env → Res D := (eOp2 ltD (oVal (eVar 1)) (oVal (eVar 2)))
def body_is_rising : PD.Env → SR := (sRet (eOpN allD (aCons (oVal (eLc (iZipD (eVar 0) (eSl slD (oVal (eVar 0)) (pSome (eC (.int 1))) pNone)) (.tp [(.nm 1), (.nm 2)]) bYes le_is_rising_1 [1, 2])) aNil)))
def m_is_rising : List D → Res D := fnM none 1 2 body_is_rising
def Γ_is_door : Nat → T := fun _ => .fz
def le_is_door_1 : PD.Env → Res D := (eCall 3 none m_is_whole (aCons (oVal (eVar 2)) (aCons (oVal (eC (.int 0))) (aCons (oVal (eOp2 subD (oVal (eVar 0)) (oVal (eC (.int 1))))) aNil))))
def body_is_door : PD.Env → SR := (sSeq (sIf (bOr (bNot (bOf (eOp1 (isiD .tuple) (oVal (eVar 1))))) (bOr (bOf (eOp2 neD (oVal (eOpN lenD (aCons (oVal (eVar 1)) aNil))) (oVal (eC (.int 2))))) (bNot (bOf (eOpN allD (aCons (oVal (eLc (iOf (eVar 1)) (.nm 2) bYes le_is_door_1 [2])) aNil)))))) (sRet (eC (.bool false))) sNil) (sRet (eOp2 ltD (oVal (eOp2 ixD (oVal (eVar 1)) (oVal (eC (.int 0))))) (oVal (eOp2 ixD (oVal (eVar 1)) (oVal (eC (.int 1))))))))
def m_is_door : List D → Res D := fnM none 2 1 body_is_door
def Γ_is_house : Nat → T := fun _ => .fz
def le_is_house_1 : PD.Env → Res D := (eCall 2 none m_is_door (aCons (oVal (eOp2 ixD (oVal (eVar 0)) (oVal (eC (.int 0))))) (aCons (oVal (eVar 1)) aNil)))
def body_is_house : PD.Env → SR := (sSeq (sIf (bOr (bNot (bOf (eOp1 (isiD .tuple) (oVal (eVar 0))))) (bOr (bOf (eOp2 neD (oVal (eOpN lenD (aCons (oVal (eVar 0)) aNil))) (oVal (eC (.int 2))))) (bNot (bOf (eCall 3 none m_is_whole (aCons (oVal (eOp2 ixD (oVal (eVar 0)) (oVal (eC (.int 0))))) (aCons (oVal (eC (.int 2))) (aCons (oVal (eC (.int 10))) aNil)))))))) (sRet (eC (.bool false))) sNil) (sSeq (sIf (bOr (bNot (bOf (eOp1 (isiD .tuple) (oVal (eOp2 ixD (oVal (eVar 0)) (oVal (eC (.int 1)))))))) (bOf (eOp2 gtD (oVal (eOpN lenD (aCons (oVal (eOp2 ixD (oVal (eVar 0)) (oVal (eC (.int 1))))) aNil))) (oVal (eC (.int 20)))))) (sRet (eC (.bool false))) sNil) (sRet (eAnd (eOpN allD (aCons (oVal (eLc (iOf (eOp2 ixD (oVal (eVar 0)) (oVal (eC (.int 1))))) (.nm 1) bYes le_is_house_1 [1])) aNil)) (eCall 1 none m_is_rising (aCons (oVal (eOp2 ixD (oVal (eVar 0)) (oVal (eC (.int 1))))) aNil))))))
def m_is_house : List D → Res D := fnM none 1 1 body_is_house
def Γ_need_house : Nat → T := fun _ => .fz
def body_need_house : PD.Env → SR := (sIf (bNot (bOf (eCall 1 none m_is_house (aCons (oVal (eVar 0)) aNil)))) (sExc 0) sNil)
def m_need_house : List D → Res D := fnM none 1 0 body_need_house
def Γ_all_spots : Nat → T := fun _ => .fz
def le_all_spots_1 : PD.Env → Res D := (eOp2 addD (oVal (eTup (aCons (oVal (eC (.str "door"))) aNil))) (oVal (eVar 1)))
def le_all_spots_2 : PD.Env → Res D := (eTup (aCons (oVal (eC (.str "room"))) (aCons (oVal (eVar 2)) aNil)))
def body_all_spots : PD.Env → SR := (sRet (eOp2 addD (oVal (eLc (iOf (eOp2 ixD (oVal (eVar 0)) (oVal (eC (.int 1))))) (.nm 1) bYes le_all_spots_1 [1])) (oVal (eLc (iRg2 (eC (.int 1)) (eOp2 ixD (oVal (eVar 0)) (oVal (eC (.int 0))))) (.nm 2) bYes le_all_spots_2 [2]))))
def m_all_spots : List D → Res D := fnM none 1 2 body_all_spots
def Γ_spots : Nat → T := fun _ => .fz
def body_spots : PD.Env → SR := (sSeq (sDrop (eCall 1 none m_need_house (aCons (oVal (eVar 0)) aNil))) (sRet (eCall 1 none m_all_spots (aCons (oVal (eVar 0)) aNil))))
def m_spots : List D → Res D := fnM none 1 0 body_spots
def Γ_beside : Nat → T := fun _ => .fz
def lt_beside_1 : PD.Env → Res Bool := (bOf (eOp2 eqD (oVal (eVar 3)) (oVal (eVar 1))))
def le_beside_1 : PD.Env → Res D := (eVar 4)
def lt_beside_2 : PD.Env → Res Bool := (bOf (eOp2 eqD (oVal (eVar 4)) (oVal (eVar 1))))
def le_beside_2 : PD.Env → Res D := (eVar 3)
def body_beside : PD.Env → SR := (sSeq (sSet 2 (eOp2 addD (oVal (eLc (iOf (eOp2 ixD (oVal (eVar 0)) (oVal (eC (.int 1))))) (.tp [(.nm 3), (.nm 4)]) lt_beside_1 le_beside_1 [3, 4])) (oVal (eLc (iOf (eOp2 ixD (oVal (eVar 0)) (oVal (eC (.int 1))))) (.tp [(.nm 3), (.nm 4)]) lt_beside_2 le_beside_2 [3, 4])))) (sRet (eOpN sortD (aCons (oVal (eVar 2)) aNil))))
def m_beside : List D → Res D := fnM none 2 3 body_beside
def Γ_need_goal : Nat → T := fun _ => .fz
def body_need_goal : PD.Env → SR := (sIf (bNot (bOf (eCall 3 none m_is_whole (aCons (oVal (eVar 1)) (aCons (oVal (eC (.int 1))) (aCons (oVal (eOp2 subD (oVal (eOp2 ixD (oVal (eVar 0)) (oVal (eC (.int 0))))) (oVal (eC (.int 1))))) aNil)))))) (sExc 2) sNil)
def m_need_goal : List D → Res D := fnM none 2 0 body_need_goal
def Γ_is_spot : Nat → T := fun _ => .fz
def le_is_spot_1 : PD.Env → Res D := (eCall 3 none m_is_whole (aCons (oVal (eVar 2)) (aCons (oVal (eC (.int 0))) (aCons (oVal (eOp2 ixD (oVal (eVar 0)) (oVal (eC (.int 0))))) aNil))))
def body_is_spot : PD.Env → SR := (sSeq (sIf (bOr (bNot (bOf (eOp1 (isiD .tuple) (oVal (eVar 1))))) (bOr (bOf (eOp2 eqD (oVal (eVar 1)) (oVal (eTup aNil)))) (bNot (bOf (eOp1 (isiD .str) (oVal (eOp2 ixD (oVal (eVar 1)) (oVal (eC (.int 0)))))))))) (sRet (eC (.bool false))) sNil) (sSeq (sIf (bNot (bOf (eOpN allD (aCons (oVal (eLc (iOf (eSl slD (oVal (eVar 1)) (pSome (eC (.int 1))) pNone)) (.nm 2) bYes le_is_spot_1 [2])) aNil)))) (sRet (eC (.bool false))) sNil) (sRet (eOp2 inD (oVal (eVar 1)) (oVal (eCall 1 none m_all_spots (aCons (oVal (eVar 0)) aNil)))))))
def m_is_spot : List D → Res D := fnM none 2 1 body_is_spot
def Γ_is_watcher : Nat → T := fun _ => .fz
def le_is_watcher_1 : PD.Env → Res D := (eOp2 inD (oVal (eVar 2)) (oVal (eC (.str "#."))))
def body_is_watcher : PD.Env → SR := (sSeq (sIf (bOr (bNot (bOf (eOp1 (isiD .tuple) (oVal (eVar 1))))) (bOr (bOf (eOp2 neD (oVal (eOpN lenD (aCons (oVal (eVar 1)) aNil))) (oVal (eC (.int 2))))) (bNot (bOf (eCall 2 none m_is_spot (aCons (oVal (eVar 0)) (aCons (oVal (eOp2 ixD (oVal (eVar 1)) (oVal (eC (.int 0))))) aNil))))))) (sRet (eC (.bool false))) sNil) (sRet (eAnd (eOp1 (isiD .str) (oVal (eOp2 ixD (oVal (eVar 1)) (oVal (eC (.int 1)))))) (eAnd (eChain leD leD (oVal (eC (.int 1))) (oVal (eOpN lenD (aCons (oVal (eOp2 ixD (oVal (eVar 1)) (oVal (eC (.int 1))))) aNil))) (oVal (eC (.int 6)))) (eOpN allD (aCons (oVal (eLc (iOf (eOp2 ixD (oVal (eVar 1)) (oVal (eC (.int 1))))) (.nm 2) bYes le_is_watcher_1 [2])) aNil))))))
def m_is_watcher : List D → Res D := fnM none 2 1 body_is_watcher
def Γ_are_watching : Nat → T := fun _ => .fz
def le_are_watching_1 : PD.Env → Res D := (eCall 2 none m_is_watcher (aCons (oVal (eVar 0)) (aCons (oVal (eVar 2)) aNil)))
def body_are_watching : PD.Env → SR := (sSeq (sIf (bOr (bNot (bOf (eOp1 (isiD .tuple) (oVal (eVar 1))))) (bOr (bOf (eOp2 gtD (oVal (eOpN lenD (aCons (oVal (eVar 1)) aNil))) (oVal (eC (.int 12))))) (bNot (bOf (eOpN allD (aCons (oVal (eLc (iOf (eVar 1)) (.nm 2) bYes le_are_watching_1 [2])) aNil)))))) (sRet (eC (.bool false))) sNil) (sRet (eCall 1 none m_is_rising (aCons (oVal (eVar 1)) aNil))))
def m_are_watching : List D → Res D := fnM none 2 1 body_are_watching
def Γ_need_watchers : Nat → T := fun _ => .fz
def body_need_watchers : PD.Env → SR := (sSeq (sDrop (eCall 1 none m_need_house (aCons (oVal (eVar 0)) aNil))) (sIf (bNot (bOf (eCall 2 none m_are_watching (aCons (oVal (eVar 0)) (aCons (oVal (eVar 1)) aNil))))) (sExc 1) sNil))
def m_need_watchers : List D → Res D := fnM none 2 0 body_need_watchers
def Γ_door_of : Nat → T := fun _ => .fz
def body_door_of : PD.Env → SR := (sRet (eIf (bOf (eOp2 neD (oVal (eVar 0)) (oVal (eVar 1)))) (eTup (aCons (oVal (eC (.str "door"))) (aCons (oVal (eOpN min2D (aCons (oVal (eVar 0)) (aCons (oVal (eVar 1)) aNil)))) (aCons (oVal (eOpN max2D (aCons (oVal (eVar 0)) (aCons (oVal (eVar 1)) aNil)))) aNil)))) (eC .none)))
def m_door_of : List D → Res D := fnM none 2 0 body_door_of
def Γ_are_watchers : Nat → T := fun _ => .fz
def body_are_watchers : PD.Env → SR := (sSeq (sDrop (eCall 1 none m_need_house (aCons (oVal (eVar 0)) aNil))) (sRet (eCall 2 none m_are_watching (aCons (oVal (eVar 0)) (aCons (oVal (eVar 1)) aNil)))))
def m_are_watchers : List D → Res D := fnM none 2 0 body_are_watchers
def Γ_sees : Nat → T := fun _ => .fz
def body_sees : PD.Env → SR := (sRet (eAnd (eOp2 eqD (oVal (eOp2 ixD (oVal (eVar 0)) (oVal (eC (.int 0))))) (oVal (eVar 1))) (eOp2 eqD (oVal (eOp2 ixD (oVal (eOp2 ixD (oVal (eVar 0)) (oVal (eC (.int 1))))) (oVal (eOp2 modD (oVal (eVar 2)) (oVal (eOpN lenD (aCons (oVal (eOp2 ixD (oVal (eVar 0)) (oVal (eC (.int 1))))) aNil))))))) (oVal (eC (.str "#"))))))
def m_sees : List D → Res D := fnM none 3 0 body_sees
def Γ_seers : Nat → T := fun _ => .fz
def le_seers_2 : PD.Env → Res D := (eCall 3 none m_sees (aCons (oVal (eVar 4)) (aCons (oVal (eVar 5)) (aCons (oVal (eVar 2)) aNil))))
def lt_seers_1 : PD.Env → Res Bool := (bOf (eOpN anyD (aCons (oVal (eLc (iOf (eVar 1)) (.nm 5) bYes le_seers_2 [5])) aNil)))
def le_seers_1 : PD.Env → Res D := (eVar 3)
def body_seers : PD.Env → SR := (sRet (eLc (iEnumD (eVar 0)) (.tp [(.nm 3), (.nm 4)]) lt_seers_1 le_seers_1 [3, 4]))
def m_seers : List D → Res D := fnM none 3 3 body_seers
def Γ_next_rows : Nat → T := fun i => match i with | 5 => .dct .fz | _ => .fz
def fb_next_rows_2 : PD.Env → SR := (sSeq (sPar 9 10 (aCons (oVal (eLst (aCons (oVal (eCall 2 none m_door_of (aCons (oVal (eOp2 ixD (oVal (eVar 6)) (oVal (eOp1 negD (oVal (eC (.int 1))))))) (aCons (oVal (eVar 8)) aNil)))) aNil))) (aCons (oVal (eLst (aCons (oVal (eTup (aCons (oVal (eC (.str "room"))) (aCons (oVal (eVar 8)) aNil)))) aNil))) aNil))) (sIf (bAnd (bOf (eOp2 eqD (oVal (eCall 3 none m_seers (aCons (oVal (eVar 1)) (aCons (oVal (eVar 9)) (aCons (oVal (eVar 4)) aNil))))) (oVal (eLst aNil)))) (bOf (eOp2 eqD (oVal (eCall 3 none m_seers (aCons (oVal (eVar 1)) (aCons (oVal (eVar 10)) (aCons (oVal (eOp2 addD (oVal (eVar 4)) (oVal (eC (.int 1))))) aNil))))) (oVal (eLst aNil))))) (sSeq (sSet 11 (eOr (eVar 7) (eOr (eOp2 neD (oVal (eCall 3 none m_seers (aCons (oVal (eVar 2)) (aCons (oVal (eVar 9)) (aCons (oVal (eVar 4)) aNil))))) (oVal (eLst aNil))) (eOp2 neD (oVal (eCall 3 none m_seers (aCons (oVal (eVar 2)) (aCons (oVal (eVar 10)) (aCons (oVal (eOp2 addD (oVal (eVar 4)) (oVal (eC (.int 1))))) aNil))))) (oVal (eLst aNil)))))) (sDrop (eSetd 5 (eTup (aCons (oVal (eVar 8)) (aCons (oVal (eVar 11)) aNil))) (eTup (aCons (oVal (eOp2 addD (oVal (eVar 6)) (oVal (eTup (aCons (oVal (eVar 8)) aNil))))) (aCons (oVal (eVar 11)) aNil)))))) sNil))
def fb_next_rows_1 : PD.Env → SR := (sFor (.nm 8) (iOf (eOpN sortD (aCons (oVal (eOp2 addD (oVal (eCall 2 none m_beside (aCons (oVal (eVar 0)) (aCons (oVal (eOp2 ixD (oVal (eVar 6)) (oVal (eOp1 negD (oVal (eC (.int 1))))))) aNil)))) (oVal (eLst (aCons (oVal (eOp2 ixD (oVal (eVar 6)) (oVal (eOp1 negD (oVal (eC (.int 1))))))) aNil))))) aNil))) fb_next_rows_2)
def body_next_rows : PD.Env → SR := (sSeq (sSet 5 eDict0) (sSeq (sFor (.tp [(.nm 6), (.nm 7)]) (iOf (eVar 3)) fb_next_rows_1) (sRet (eOp1 listV (oSlot 5)))))
def m_next_rows : List D → Res D := fnM none 5 7 body_next_rows
def Γ_seen_by_one : Nat → T := fun _ => .fz
def lt_seen_by_one_2 : PD.Env → Res Bool := (bOf (eVar 7))
def le_seen_by_one_2 : PD.Env → Res D := (eVar 6)
def fb_seen_by_one_1 : PD.Env → SR := (sSeq (sSet 3 (eCall 5 none m_next_rows (aCons (oVal (eVar 0)) (aCons (oVal (eVar 2)) (aCons (oVal (eVar 1)) (aCons (oVal (eVar 3)) (aCons (oVal (eVar 4)) aNil))))))) (sSeq (sSet 5 (eLc (iOf (eVar 3)) (.tp [(.nm 6), (.nm 7)]) lt_seen_by_one_2 le_seen_by_one_2 [6, 7])) (sIf (bOf (eOp2 neD (oVal (eVar 5)) (oVal (eLst aNil)))) (sRet (eOpN minLD (aCons (oVal (eVar 5)) aNil))) sNil)))
def body_seen_by_one : PD.Env → SR := (sSeq (sSet 3 (eLst (aCons (oVal (eTup (aCons (oVal (eTup (aCons (oVal (eC (.int 0))) aNil))) (aCons (oVal (eC (.bool false))) aNil)))) aNil))) (sSeq (sFor (.nm 4) (iRg1 (eOp2 subD (oVal (eC (.int 30))) (oVal (eC (.int 1))))) fb_seen_by_one_1) (sRet (eC .none))))
def m_seen_by_one : List D → Res D := fnM none 3 5 body_seen_by_one
def Γ_closer : Nat → T := fun _ => .fz
def body_closer : PD.Env → SR := (sSeq (sDrop (eCall 2 none m_need_watchers (aCons (oVal (eVar 0)) (aCons (oVal (eVar 1)) aNil)))) (sSeq (sDrop (eCall 2 none m_need_watchers (aCons (oVal (eVar 0)) (aCons (oVal (eVar 2)) aNil)))) (sRet (eOp2 isN (oVal (eCall 3 none m_seen_by_one (aCons (oVal (eVar 0)) (aCons (oVal (eVar 2)) (aCons (oVal (eVar 1)) aNil))))) (oVal (eC .none))))))
def m_closer : List D → Res D := fnM none 3 0 body_closer
def Γ_parted : Nat → T := fun _ => .fz
def body_parted : PD.Env → SR := (sSeq (sDrop (eCall 2 none m_need_watchers (aCons (oVal (eVar 0)) (aCons (oVal (eVar 1)) aNil)))) (sSeq (sDrop (eCall 2 none m_need_watchers (aCons (oVal (eVar 0)) (aCons (oVal (eVar 2)) aNil)))) (sSeq (sSet 3 (eCall 3 none m_seen_by_one (aCons (oVal (eVar 0)) (aCons (oVal (eVar 1)) (aCons (oVal (eVar 2)) aNil))))) (sRet (eIf (bOf (eOp2 notN (oVal (eVar 3)) (oVal (eC .none)))) (eVar 3) (eCall 3 none m_seen_by_one (aCons (oVal (eVar 0)) (aCons (oVal (eVar 2)) (aCons (oVal (eVar 1)) aNil)))))))))
def m_parted : List D → Res D := fnM none 3 1 body_parted
def Γ_is_way : Nat → T := fun _ => .fz
def le_is_way_2 : PD.Env → Res D := (eOr (eOp2 eqD (oVal (eVar 3)) (oVal (eVar 4))) (eOp2 inD (oVal (eVar 4)) (oVal (eCall 2 none m_beside (aCons (oVal (eVar 0)) (aCons (oVal (eVar 3)) aNil))))))
def le_is_way_1 : PD.Env → Res D := (eCall 3 none m_is_whole (aCons (oVal (eVar 2)) (aCons (oVal (eC (.int 0))) (aCons (oVal (eOp2 subD (oVal (eOp2 ixD (oVal (eVar 0)) (oVal (eC (.int 0))))) (oVal (eC (.int 1))))) aNil))))
def body_is_way : PD.Env → SR := (sSeq (sIf (bOr (bNot (bOf (eOp1 (isiD .tuple) (oVal (eVar 1))))) (bNot (bOf (eChain leD leD (oVal (eC (.int 1))) (oVal (eOpN lenD (aCons (oVal (eVar 1)) aNil))) (oVal (eC (.int 40))))))) (sRet (eC (.bool false))) sNil) (sSeq (sIf (bOr (bNot (bOf (eOpN allD (aCons (oVal (eLc (iOf (eVar 1)) (.nm 2) bYes le_is_way_1 [2])) aNil)))) (bOf (eOp2 neD (oVal (eOp2 ixD (oVal (eVar 1)) (oVal (eC (.int 0))))) (oVal (eC (.int 0)))))) (sRet (eC (.bool false))) sNil) (sRet (eOpN allD (aCons (oVal (eLc (iZipD (eVar 1) (eSl slD (oVal (eVar 1)) (pSome (eC (.int 1))) pNone)) (.tp [(.nm 3), (.nm 4)]) bYes le_is_way_2 [3, 4])) aNil)))))
def m_is_way : List D → Res D := fnM none 2 3 body_is_way
def Γ_seen : Nat → T := fun i => match i with | 3 => .lst .fz | _ => .fz
def le_seen_2 : PD.Env → Res D := (eTup (aCons (oVal (eVar 4)) (aCons (oVal (eVar 7)) aNil)))
def fb_seen_1 : PD.Env → SR := (sSeq (sSet 6 (eLst (aCons (oVal (eTup (aCons (oVal (eC (.str "room"))) (aCons (oVal (eVar 5)) aNil)))) (aCons (oVal (eCall 2 none m_door_of (aCons (oVal (eVar 5)) (aCons (oVal (eOp2 ixD (oVal (eOp2 addD (oVal (eVar 2)) (oVal (eSl slD (oVal (eVar 2)) (pSome (eOp1 negD (oVal (eC (.int 1))))) pNone)))) (oVal (eOp2 addD (oVal (eVar 4)) (oVal (eC (.int 1))))))) aNil)))) aNil)))) (sDrop (eMut 3 extD (aCons (oVal (eLc (iOf (eCall 3 none m_seers (aCons (oVal (eVar 1)) (aCons (oVal (eVar 6)) (aCons (oVal (eVar 4)) aNil))))) (.nm 7) bYes le_seen_2 [7])) aNil))))
def body_seen : PD.Env → SR := (sSeq (sDrop (eCall 2 none m_need_watchers (aCons (oVal (eVar 0)) (aCons (oVal (eVar 1)) aNil)))) (sSeq (sIf (bNot (bOf (eCall 2 none m_is_way (aCons (oVal (eVar 0)) (aCons (oVal (eVar 2)) aNil))))) (sExc 3) sNil) (sSeq (sSet 3 (eLst aNil)) (sSeq (sFor (.tp [(.nm 4), (.nm 5)]) (iEnumD (eVar 2)) fb_seen_1) (sRet (eMov 3))))))
def m_seen : List D → Res D := fnM none 3 5 body_seen
def Γ_steps_from : Nat → T := fun i => match i with | 4 => .lst .fz | _ => .fz
def fb_steps_from_1 : PD.Env → SR := (sIf (bAnd (bOf (eOp2 eqD (oVal (eCall 3 none m_seers (aCons (oVal (eVar 1)) (aCons (oVal (eLst (aCons (oVal (eCall 2 none m_door_of (aCons (oVal (eVar 2)) (aCons (oVal (eVar 5)) aNil)))) aNil))) (aCons (oVal (eVar 3)) aNil))))) (oVal (eLst aNil)))) (bOf (eOp2 eqD (oVal (eCall 3 none m_seers (aCons (oVal (eVar 1)) (aCons (oVal (eLst (aCons (oVal (eTup (aCons (oVal (eC (.str "room"))) (aCons (oVal (eVar 5)) aNil)))) aNil))) (aCons (oVal (eOp2 addD (oVal (eVar 3)) (oVal (eC (.int 1))))) aNil))))) (oVal (eLst aNil))))) (sDrop (eMut 4 appD (aCons (oVal (eVar 5)) aNil))) sNil)
def body_steps_from : PD.Env → SR := (sSeq (sSet 4 (eLst aNil)) (sSeq (sFor (.nm 5) (iOf (eOpN sortD (aCons (oVal (eOp2 addD (oVal (eCall 2 none m_beside (aCons (oVal (eVar 0)) (aCons (oVal (eVar 2)) aNil)))) (oVal (eLst (aCons (oVal (eVar 2)) aNil))))) aNil))) fb_steps_from_1) (sRet (eMov 4))))
def m_steps_from : List D → Res D := fnM none 4 2 body_steps_from
def Γ_ways_by_beat : Nat → T := fun i => match i with | 3 => .lst .fz | 5 => .dct .fz | _ => .fz
def fb_ways_by_beat_3 : PD.Env → SR := (sDrop (eSetd 5 (eVar 7) (eOp2 addD (oVal (eVar 6)) (oVal (eTup (aCons (oVal (eVar 7)) aNil))))))
def fb_ways_by_beat_2 : PD.Env → SR := (sFor (.nm 7) (iOf (eCall 4 none m_steps_from (aCons (oVal (eVar 0)) (aCons (oVal (eVar 1)) (aCons (oVal (eOp2 ixD (oVal (eVar 6)) (oVal (eOp1 negD (oVal (eC (.int 1))))))) (aCons (oVal (eVar 4)) aNil)))))) fb_ways_by_beat_3)
def fb_ways_by_beat_1 : PD.Env → SR := (sSeq (sSet 5 eDict0) (sSeq (sFor (.nm 6) (iOf (eOpN sortD (aCons (oVal (eOp1 listV (oVal (eOp2 ixD (oSlot 3) (oVal (eOp1 negD (oVal (eC (.int 1))))))))) aNil))) fb_ways_by_beat_2) (sDrop (eMut 3 appD (aCons (oVal (eMov 5)) aNil)))))
def body_ways_by_beat : PD.Env → SR := (sSeq (sSet 3 (eLst (aCons (oVal (eDict1 (eC (.int 0)) (eTup (aCons (oVal (eC (.int 0))) aNil)))) aNil))) (sSeq (sFor (.nm 4) (iRg1 (eOp2 subD (oVal (eVar 2)) (oVal (eC (.int 1))))) fb_ways_by_beat_1) (sRet (eMov 3))))
def m_ways_by_beat : List D → Res D := fnM none 3 5 body_ways_by_beat
def Γ_open_rooms : Nat → T := fun _ => .fz
def body_open_rooms : PD.Env → SR := (sSeq (sDrop (eCall 2 none m_need_watchers (aCons (oVal (eVar 0)) (aCons (oVal (eVar 1)) aNil)))) (sSeq (sIf (bNot (bOf (eCall 3 none m_is_whole (aCons (oVal (eVar 2)) (aCons (oVal (eC (.int 0))) (aCons (oVal (eC (.int 30))) aNil)))))) (sExc 4) sNil) (sRet (eOpN tupleD (aCons (oVal (eOpN sortD (aCons (oVal (eOpN listK (aCons (oVal (eOp2 ixD (oVal (eCall 3 none m_ways_by_beat (aCons (oVal (eVar 0)) (aCons (oVal (eVar 1)) (aCons (oVal (eOp2 addD (oVal (eVar 2)) (oVal (eC (.int 1))))) aNil))))) (oVal (eOp1 negD (oVal (eC (.int 1))))))) aNil))) aNil))) aNil)))))
def m_open_rooms : List D → Res D := fnM none 3 0 body_open_rooms
def Γ_need_all : Nat → T := fun _ => .fz
def body_need_all : PD.Env → SR := (sSeq (sDrop (eCall 2 none m_need_watchers (aCons (oVal (eVar 0)) (aCons (oVal (eVar 1)) aNil)))) (sSeq (sDrop (eCall 2 none m_need_goal (aCons (oVal (eVar 0)) (aCons (oVal (eVar 2)) aNil)))) (sIf (bNot (bOf (eCall 3 none m_is_whole (aCons (oVal (eVar 3)) (aCons (oVal (eC (.int 1))) (aCons (oVal (eC (.int 30))) aNil)))))) (sExc 4) sNil)))
def m_need_all : List D → Res D := fnM none 4 0 body_need_all
def Γ_unseen : Nat → T := fun _ => .fz
def lt_unseen_1 : PD.Env → Res Bool := (bOf (eOp2 inK (oVal (eVar 2)) (oVal (eVar 5))))
def le_unseen_1 : PD.Env → Res D := (eOp2 ixK (oVal (eVar 5)) (oVal (eVar 2)))
def body_unseen : PD.Env → SR := (sSeq (sDrop (eCall 4 none m_need_all (aCons (oVal (eVar 0)) (aCons (oVal (eVar 1)) (aCons (oVal (eVar 2)) (aCons (oVal (eVar 3)) aNil)))))) (sSeq (sSet 4 (eLc (iOf (eCall 3 none m_ways_by_beat (aCons (oVal (eVar 0)) (aCons (oVal (eVar 1)) (aCons (oVal (eVar 3)) aNil))))) (.nm 5) lt_unseen_1 le_unseen_1 [5])) (sRet (eOp2 ixD (oVal (eOp2 addD (oVal (eVar 4)) (oVal (eLst (aCons (oVal (eC .none)) aNil))))) (oVal (eC (.int 0)))))))
def m_unseen : List D → Res D := fnM none 4 2 body_unseen
def Γ_paper : Nat → T := fun _ => .fz
def le_paper_2 : PD.Env → Res D := (eOp2 inD (oVal (eVar 2)) (oVal (eVar 6)))
def le_paper_1 : PD.Env → Res D := (eOpN tupleD (aCons (oVal (eOpN sortD (aCons (oVal (eOpN listK (aCons (oVal (eVar 5)) aNil))) aNil))) aNil))
def body_paper : PD.Env → SR := (sSeq (sDrop (eCall 4 none m_need_all (aCons (oVal (eVar 0)) (aCons (oVal (eVar 1)) (aCons (oVal (eVar 2)) (aCons (oVal (eVar 3)) aNil)))))) (sSeq (sSet 4 (eLc (iOf (eCall 3 none m_ways_by_beat (aCons (oVal (eVar 0)) (aCons (oVal (eVar 1)) (aCons (oVal (eVar 3)) aNil))))) (.nm 5) bYes le_paper_1 [5])) (sRet (eIf (bNot (bOf (eOpN anyD (aCons (oVal (eLc (iOf (eVar 4)) (.nm 6) bYes le_paper_2 [6])) aNil)))) (eVar 4) (eC .none)))))
def m_paper : List D → Res D := fnM none 4 3 body_paper
def Γ_are_rooms : Nat → T := fun _ => .fz
def le_are_rooms_1 : PD.Env → Res D := (eCall 3 none m_is_whole (aCons (oVal (eVar 2)) (aCons (oVal (eC (.int 0))) (aCons (oVal (eOp2 subD (oVal (eOp2 ixD (oVal (eVar 0)) (oVal (eC (.int 0))))) (oVal (eC (.int 1))))) aNil))))
def body_are_rooms : PD.Env → SR := (sSeq (sIf (bOr (bNot (bOf (eOp1 (isiD .tuple) (oVal (eVar 1))))) (bNot (bOf (eOpN allD (aCons (oVal (eLc (iOf (eVar 1)) (.nm 2) bYes le_are_rooms_1 [2])) aNil))))) (sRet (eC (.bool false))) sNil) (sRet (eCall 1 none m_is_rising (aCons (oVal (eVar 1)) aNil))))
def m_are_rooms : List D → Res D := fnM none 2 1 body_are_rooms
def Γ_is_paper : Nat → T := fun _ => .fz
def le_is_paper_5 : PD.Env → Res D := (eOp2 inD (oVal (eVar 8)) (oVal (eOp2 ixD (oVal (eVar 3)) (oVal (eOp2 addD (oVal (eVar 6)) (oVal (eC (.int 1))))))))
def fb_is_paper_4 : PD.Env → SR := (sIf (bNot (bOf (eOpN allD (aCons (oVal (eLc (iOf (eCall 4 none m_steps_from (aCons (oVal (eVar 0)) (aCons (oVal (eVar 1)) (aCons (oVal (eVar 7)) (aCons (oVal (eVar 6)) aNil)))))) (.nm 8) bYes le_is_paper_5 [8])) aNil)))) (sRet (eC (.bool false))) sNil)
def fb_is_paper_3 : PD.Env → SR := (sFor (.nm 7) (iOf (eVar 5)) fb_is_paper_4)
def le_is_paper_2 : PD.Env → Res D := (eOp2 inD (oVal (eVar 2)) (oVal (eVar 5)))
def le_is_paper_1 : PD.Env → Res D := (eCall 2 none m_are_rooms (aCons (oVal (eVar 0)) (aCons (oVal (eVar 4)) aNil)))
def body_is_paper : PD.Env → SR := (sSeq (sDrop (eCall 2 none m_need_watchers (aCons (oVal (eVar 0)) (aCons (oVal (eVar 1)) aNil)))) (sSeq (sDrop (eCall 2 none m_need_goal (aCons (oVal (eVar 0)) (aCons (oVal (eVar 2)) aNil)))) (sSeq (sIf (bOr (bNot (bOf (eOp1 (isiD .list) (oVal (eVar 3))))) (bOr (bNot (bOf (eChain leD leD (oVal (eC (.int 1))) (oVal (eOpN lenD (aCons (oVal (eVar 3)) aNil))) (oVal (eC (.int 30)))))) (bNot (bOf (eOpN allD (aCons (oVal (eLc (iOf (eVar 3)) (.nm 4) bYes le_is_paper_1 [4])) aNil)))))) (sRet (eC (.bool false))) sNil) (sSeq (sIf (bOr (bOf (eOp2 neD (oVal (eOp2 ixD (oVal (eVar 3)) (oVal (eC (.int 0))))) (oVal (eTup (aCons (oVal (eC (.int 0))) aNil))))) (bOf (eOpN anyD (aCons (oVal (eLc (iOf (eVar 3)) (.nm 5) bYes le_is_paper_2 [5])) aNil)))) (sRet (eC (.bool false))) sNil) (sSeq (sFor (.tp [(.nm 6), (.nm 5)]) (iEnumD (eSl slD (oVal (eVar 3)) pNone (pSome (eOp1 negD (oVal (eC (.int 1))))))) fb_is_paper_3) (sRet (eC (.bool true))))))))
def m_is_paper : List D → Res D := fnM none 4 5 body_is_paper
def Γ__law_next : Nat → T := fun i => match i with | 2 => .lst .fz | _ => .fz
def fb__law_next_1 : PD.Env → SR := (sDrop (eMut 2 extD (aCons (oVal (eOp2 addD (oVal (eOp2 mulD (oVal (eLst (aCons (oVal (eVar 4)) aNil))) (oVal (eOpN intOfD (aCons (oVal (eOp2 eqD (oVal (eVar 3)) (oVal (eVar 1)))) aNil))))) (oVal (eOp2 mulD (oVal (eLst (aCons (oVal (eVar 3)) aNil))) (oVal (eOpN intOfD (aCons (oVal (eOp2 eqD (oVal (eVar 4)) (oVal (eVar 1)))) aNil))))))) aNil)))
def body__law_next : PD.Env → SR := (sSeq (sSet 2 (eLst (aCons (oVal (eVar 1)) aNil))) (sSeq (sFor (.tp [(.nm 3), (.nm 4)]) (iOf (eOp2 ixD (oVal (eVar 0)) (oVal (eC (.int 1))))) fb__law_next_1) (sRet (eOpN sortD (aCons (oSlot 2) aNil)))))
def m__law_next : List D → Res D := fnM none 2 3 body__law_next
def Γ__law_walk : Nat → T := fun i => match i with | 1 => .lst .fz | 4 => .lst .fz | _ => .fz
def fb__law_walk_1 : PD.Env → SR := (sDrop (eMut 4 appD (aCons (oVal (eCall 3 (some (1, 1)) m__law_pick (aCons (oVal (eVar 0)) (aCons (oLend 1) (aCons (oVal (eCall 2 none m__law_next (aCons (oVal (eVar 2)) (aCons (oVal (eOp2 ixD (oSlot 4) (oVal (eOp1 negD (oVal (eC (.int 1))))))) aNil)))) aNil))))) aNil)))
def body__law_walk : PD.Env → SR := (sSeq (sSet 4 (eLst (aCons (oVal (eC (.int 0))) aNil))) (sSeq (sFor (.nm 5) (iRg1 (eOp2 subD (oVal (eVar 3)) (oVal (eC (.int 1))))) fb__law_walk_1) (sRet (eOpN tupleD (aCons (oSlot 4) aNil)))))
def m__law_walk : List D → Res D := fnM (some 1) 4 2 body__law_walk
def Γ__law_on : Nat → T := fun _ => .fz
def body__law_on : PD.Env → SR := (sRet (eOp2 eqD (oVal (eOp2 ixD (oVal (eOp2 ixD (oVal (eVar 0)) (oVal (eC (.int 1))))) (oVal (eOp2 modD (oVal (eVar 1)) (oVal (eOpN lenD (aCons (oVal (eOp2 ixD (oVal (eVar 0)) (oVal (eC (.int 1))))) aNil))))))) (oVal (eC (.str "#")))))
def m__law_on : List D → Res D := fnM none 2 0 body__law_on
def Γ__law_in_room : Nat → T := fun _ => .fz
def lt__law_in_room_1 : PD.Env → Res Bool := (bAnd (bOf (eOp2 eqD (oVal (eOp2 ixD (oVal (eVar 4)) (oVal (eC (.int 0))))) (oVal (eTup (aCons (oVal (eC (.str "room"))) (aCons (oVal (eVar 1)) aNil)))))) (bOf (eCall 2 none m__law_on (aCons (oVal (eVar 4)) (aCons (oVal (eVar 2)) aNil)))))
def le__law_in_room_1 : PD.Env → Res D := (eVar 3)
def body__law_in_room : PD.Env → SR := (sRet (eLc (iEnumD (eVar 0)) (.tp [(.nm 3), (.nm 4)]) lt__law_in_room_1 le__law_in_room_1 [3, 4]))
def m__law_in_room : List D → Res D := fnM none 3 2 body__law_in_room
def Γ__law_at_door : Nat → T := fun _ => .fz
def lt__law_at_door_1 : PD.Env → Res Bool := (bAnd (bOf (eOp2 eqD (oVal (eOp2 ixD (oVal (eVar 6)) (oVal (eC (.int 0))))) (oVal (eVar 4)))) (bAnd (bOf (eOp2 neD (oVal (eVar 1)) (oVal (eVar 2)))) (bOf (eCall 2 none m__law_on (aCons (oVal (eVar 6)) (aCons (oVal (eVar 3)) aNil))))))
def le__law_at_door_1 : PD.Env → Res D := (eVar 5)
def body__law_at_door : PD.Env → SR := (sSeq (sSet 4 (eTup (aCons (oVal (eC (.str "door"))) (aCons (oVal (eOpN min2D (aCons (oVal (eVar 1)) (aCons (oVal (eVar 2)) aNil)))) (aCons (oVal (eOpN max2D (aCons (oVal (eVar 1)) (aCons (oVal (eVar 2)) aNil)))) aNil))))) (sRet (eLc (iEnumD (eVar 0)) (.tp [(.nm 5), (.nm 6)]) lt__law_at_door_1 le__law_at_door_1 [5, 6])))
def m__law_at_door : List D → Res D := fnM none 4 3 body__law_at_door
def Γ__law_seen : Nat → T := fun i => match i with | 2 => .lst .fz | _ => .fz
def le__law_seen_2 : PD.Env → Res D := (eTup (aCons (oVal (eVar 3)) (aCons (oVal (eVar 6)) aNil)))
def fb__law_seen_1 : PD.Env → SR := (sSeq (sSet 5 (eCall 3 none m__law_in_room (aCons (oVal (eVar 0)) (aCons (oVal (eVar 4)) (aCons (oVal (eVar 3)) aNil))))) (sSeq (sIf (bOf (eOp2 ltD (oVal (eOp2 addD (oVal (eVar 3)) (oVal (eC (.int 1))))) (oVal (eOpN lenD (aCons (oVal (eVar 1)) aNil))))) (sSet 5 (eOp2 addD (oVal (eVar 5)) (oVal (eCall 4 none m__law_at_door (aCons (oVal (eVar 0)) (aCons (oVal (eVar 4)) (aCons (oVal (eOp2 ixD (oVal (eVar 1)) (oVal (eOp2 addD (oVal (eVar 3)) (oVal (eC (.int 1))))))) (aCons (oVal (eVar 3)) aNil)))))))) sNil) (sDrop (eMut 2 extD (aCons (oVal (eLc (iOf (eOpN sortD (aCons (oVal (eVar 5)) aNil))) (.nm 6) bYes le__law_seen_2 [6])) aNil)))))
def body__law_seen : PD.Env → SR := (sSeq (sSet 2 (eLst aNil)) (sSeq (sFor (.tp [(.nm 3), (.nm 4)]) (iEnumD (eVar 1)) fb__law_seen_1) (sRet (eMov 2))))
def m__law_seen : List D → Res D := fnM none 2 5 body__law_seen
def Γ_number_of : Nat → T := fun _ => .fz
def le_number_of_1 : PD.Env → Res D := (eOp2 inD (oVal (eVar 1)) (oVal (eC (.str "0123456789"))))
def body_number_of : PD.Env → SR := (sRet (eIf (bAnd (bOf (eChain leD leD (oVal (eC (.int 1))) (oVal (eOpN lenD (aCons (oVal (eVar 0)) aNil))) (oVal (eC (.int 2))))) (bOf (eOpN allD (aCons (oVal (eLc (iOf (eVar 0)) (.nm 1) bYes le_number_of_1 [1])) aNil)))) (eOpN intOfD (aCons (oVal (eVar 0)) aNil)) (eC .none)))
def m_number_of : List D → Res D := fnM none 1 1 body_number_of
def Γ_numbers_of : Nat → T := fun _ => .fz
def le_numbers_of_1 : PD.Env → Res D := (eCall 1 none m_number_of (aCons (oVal (eVar 1)) aNil))
def body_numbers_of : PD.Env → SR := (sRet (eOpN tupleD (aCons (oVal (eLc (iOf (eVar 0)) (.nm 1) bYes le_numbers_of_1 [1])) aNil)))
def m_numbers_of : List D → Res D := fnM none 1 1 body_numbers_of
def Γ__law_beside : Nat → T := fun i => match i with | 2 => .lst .fz | _ => .fz
def fb__law_beside_1 : PD.Env → SR := (sDrop (eMut 2 extD (aCons (oVal (eOp2 addD (oVal (eOp2 mulD (oVal (eLst (aCons (oVal (eVar 4)) aNil))) (oVal (eOpN intOfD (aCons (oVal (eOp2 eqD (oVal (eVar 3)) (oVal (eVar 1)))) aNil))))) (oVal (eOp2 mulD (oVal (eLst (aCons (oVal (eVar 3)) aNil))) (oVal (eOpN intOfD (aCons (oVal (eOp2 eqD (oVal (eVar 4)) (oVal (eVar 1)))) aNil))))))) aNil)))
def body__law_beside : PD.Env → SR := (sSeq (sSet 2 (eLst (aCons (oVal (eVar 1)) aNil))) (sSeq (sFor (.tp [(.nm 3), (.nm 4)]) (iOf (eOp2 ixD (oVal (eVar 0)) (oVal (eC (.int 1))))) fb__law_beside_1) (sRet (eOpN sortD (aCons (oSlot 2) aNil)))))
def m__law_beside : List D → Res D := fnM none 2 3 body__law_beside
def Γ__law_ways : Nat → T := fun i => match i with | 4 => .lst .fz | _ => .fz
def le__law_ways_3 : PD.Env → Res D := (eOp2 addD (oVal (eVar 5)) (oVal (eTup (aCons (oVal (eVar 6)) aNil))))
def fb__law_ways_2 : PD.Env → SR := (sDrop (eMut 4 extD (aCons (oVal (eLc (iOf (eCall 2 none m__law_beside (aCons (oVal (eVar 0)) (aCons (oVal (eOp2 ixD (oVal (eVar 5)) (oVal (eOp1 negD (oVal (eC (.int 1))))))) aNil)))) (.nm 6) bYes le__law_ways_3 [6])) aNil)))
def fb__law_ways_1 : PD.Env → SR := (sSeq (sSet 4 (eLst aNil)) (sSeq (sFor (.nm 5) (iOf (eVar 2)) fb__law_ways_2) (sSet 2 (eMov 4))))
def body__law_ways : PD.Env → SR := (sSeq (sSet 2 (eLst (aCons (oVal (eTup (aCons (oVal (eC (.int 0))) aNil))) aNil))) (sSeq (sFor (.nm 3) (iRg1 (eOp2 subD (oVal (eVar 1)) (oVal (eC (.int 1))))) fb__law_ways_1) (sRet (eVar 2))))
def m__law_ways : List D → Res D := fnM none 2 5 body__law_ways
def Γ__law_sees : Nat → T := fun _ => .fz
def lt__law_sees_1 : PD.Env → Res Bool := (bAnd (bOf (eOp2 eqD (oVal (eVar 3)) (oVal (eVar 1)))) (bOf (eOp2 eqD (oVal (eOp2 ixD (oVal (eVar 4)) (oVal (eOp2 modD (oVal (eVar 2)) (oVal (eOpN lenD (aCons (oVal (eVar 4)) aNil))))))) (oVal (eC (.str "#"))))))
def le__law_sees_1 : PD.Env → Res D := (eVar 4)
def body__law_sees : PD.Env → SR := (sRet (eOpN lenD (aCons (oVal (eLc (iOf (eVar 0)) (.tp [(.nm 3), (.nm 4)]) lt__law_sees_1 le__law_sees_1 [3, 4])) aNil)))
def m__law_sees : List D → Res D := fnM none 3 2 body__law_sees
def Γ__law_door : Nat → T := fun _ => .fz
def body__law_door : PD.Env → SR := (sRet (eTup (aCons (oVal (eC (.str "door"))) (aCons (oVal (eOpN min2D (aCons (oVal (eVar 0)) (aCons (oVal (eVar 1)) aNil)))) (aCons (oVal (eOpN max2D (aCons (oVal (eVar 0)) (aCons (oVal (eVar 1)) aNil)))) aNil)))))
def m__law_door : List D → Res D := fnM none 2 0 body__law_door
def Γ__law_step : Nat → T := fun _ => .fz
def body__law_step : PD.Env → SR := (sRet (eOp2 addD (oVal (eCall 3 none m__law_sees (aCons (oVal (eVar 0)) (aCons (oVal (eCall 2 none m__law_door (aCons (oVal (eVar 1)) (aCons (oVal (eVar 2)) aNil)))) (aCons (oVal (eVar 3)) aNil))))) (oVal (eCall 3 none m__law_sees (aCons (oVal (eVar 0)) (aCons (oVal (eTup (aCons (oVal (eC (.str "room"))) (aCons (oVal (eVar 2)) aNil)))) (aCons (oVal (eOp2 addD (oVal (eVar 3)) (oVal (eC (.int 1))))) aNil)))))))
def m__law_step : List D → Res D := fnM none 4 0 body__law_step
def Γ__law_often : Nat → T := fun _ => .fz
def le__law_often_1 : PD.Env → Res D := (eCall 4 none m__law_step (aCons (oVal (eVar 0)) (aCons (oVal (eOp2 ixD (oVal (eVar 1)) (oVal (eVar 2)))) (aCons (oVal (eOp2 ixD (oVal (eVar 1)) (oVal (eOp2 addD (oVal (eVar 2)) (oVal (eC (.int 1))))))) (aCons (oVal (eVar 2)) aNil)))))
def body__law_often : PD.Env → SR := (sRet (eOpN sumD (aCons (oVal (eLc (iRg1 (eOp2 subD (oVal (eOpN lenD (aCons (oVal (eVar 1)) aNil))) (oVal (eC (.int 1))))) (.nm 2) bYes le__law_often_1 [2])) aNil)))
def m__law_often : List D → Res D := fnM none 2 1 body__law_often
def Γ_times_seen : Nat → T := fun _ => .fz
def body_times_seen : PD.Env → SR := (sSeq (sSet 4 (eCall 3 none m_seers (aCons (oVal (eVar 0)) (aCons (oVal (eLst (aCons (oVal (eCall 2 none m_door_of (aCons (oVal (eVar 1)) (aCons (oVal (eVar 2)) aNil)))) aNil))) (aCons (oVal (eVar 3)) aNil))))) (sRet (eOp2 addD (oVal (eOpN lenD (aCons (oVal (eVar 4)) aNil))) (oVal (eOpN lenD (aCons (oVal (eCall 3 none m_seers (aCons (oVal (eVar 0)) (aCons (oVal (eLst (aCons (oVal (eTup (aCons (oVal (eC (.str "room"))) (aCons (oVal (eVar 2)) aNil)))) aNil))) (aCons (oVal (eOp2 addD (oVal (eVar 3)) (oVal (eC (.int 1))))) aNil))))) aNil))))))
def m_times_seen : List D → Res D := fnM none 4 1 body_times_seen
def Γ_least_seen : Nat → T := fun i => match i with | 7 => .dct .fz | _ => .fz
def fb_least_seen_3 : PD.Env → SR := (sSeq (sSet 11 (eTup (aCons (oVal (eOp2 addD (oVal (eVar 8)) (oVal (eCall 4 none m_times_seen (aCons (oVal (eVar 1)) (aCons (oVal (eOp2 ixD (oVal (eVar 9)) (oVal (eOp1 negD (oVal (eC (.int 1))))))) (aCons (oVal (eVar 10)) (aCons (oVal (eVar 6)) aNil)))))))) (aCons (oVal (eOp2 addD (oVal (eVar 9)) (oVal (eTup (aCons (oVal (eVar 10)) aNil))))) aNil)))) (sIf (bOr (bOf (eOp2 notInK (oVal (eVar 10)) (oSlot 7))) (bOf (eOp2 ltD (oVal (eVar 11)) (oVal (eOp2 ixK (oSlot 7) (oVal (eVar 10))))))) (sPutK 7 (eVar 11) (eVar 10)) sNil))
def fb_least_seen_2 : PD.Env → SR := (sFor (.nm 10) (iOf (eOpN sortD (aCons (oVal (eOp2 addD (oVal (eCall 2 none m_beside (aCons (oVal (eVar 0)) (aCons (oVal (eOp2 ixD (oVal (eVar 9)) (oVal (eOp1 negD (oVal (eC (.int 1))))))) aNil)))) (oVal (eLst (aCons (oVal (eOp2 ixD (oVal (eVar 9)) (oVal (eOp1 negD (oVal (eC (.int 1))))))) aNil))))) aNil))) fb_least_seen_3)
def fb_least_seen_1 : PD.Env → SR := (sSeq (sIf (bAnd (bOf (eOp2 inK (oVal (eVar 2)) (oVal (eVar 4)))) (bOr (bOf (eOp2 isN (oVal (eVar 5)) (oVal (eC .none)))) (bOf (eOp2 ltD (oVal (eOp2 ixD (oVal (eOp2 ixK (oVal (eVar 4)) (oVal (eVar 2)))) (oVal (eC (.int 0))))) (oVal (eOp2 ixD (oVal (eVar 5)) (oVal (eC (.int 0))))))))) (sSet 5 (eOp2 ixK (oVal (eVar 4)) (oVal (eVar 2)))) sNil) (sSeq (sSet 7 eDict0) (sSeq (sFor (.tp [(.nm 8), (.nm 9)]) (iOf (eOpN sortD (aCons (oVal (eOp1 listV (oVal (eVar 4)))) aNil))) fb_least_seen_2) (sSet 4 (eMov 7)))))
def body_least_seen : PD.Env → SR := (sSeq (sDrop (eCall 4 none m_need_all (aCons (oVal (eVar 0)) (aCons (oVal (eVar 1)) (aCons (oVal (eVar 2)) (aCons (oVal (eVar 3)) aNil)))))) (sSeq (sSet 4 (eDict1 (eC (.int 0)) (eTup (aCons (oVal (eC (.int 0))) (aCons (oVal (eTup (aCons (oVal (eC (.int 0))) aNil))) aNil))))) (sSeq (sSet 5 (eC .none)) (sSeq (sFor (.nm 6) (iRg1 (eVar 3)) fb_least_seen_1) (sRet (eVar 5))))))
def m_least_seen : List D → Res D := fnM none 4 8 body_least_seen
def Γ__law_odd_house : Nat → T := fun i => match i with | 1 => .lst .fz | _ => .fz
def body__law_odd_house : PD.Env → SR := (sSeq (sSet 2 (eLst (aCons (oVal (eC .none)) (aCons (oVal (eC (.int 5))) (aCons (oVal (eTup aNil)) (aCons (oVal (eTup (aCons (oVal (eC (.int 1))) (aCons (oVal (eTup aNil)) aNil)))) (aCons (oVal (eTup (aCons (oVal (eC (.int 11))) (aCons (oVal (eTup aNil)) aNil)))) (aCons (oVal (eTup (aCons (oVal (eC (.bool true))) (aCons (oVal (eTup aNil)) aNil)))) (aCons (oVal (eTup (aCons (oVal (eC (.int 3))) (aCons (oVal (eLst (aCons (oVal (eTup (aCons (oVal (eC (.int 0))) (aCons (oVal (eC (.int 1))) aNil)))) aNil))) aNil)))) (aCons (oVal (eLst (aCons (oVal (eC (.int 3))) (aCons (oVal (eTup aNil)) aNil)))) (aCons (oVal (eTup (aCons (oVal (eC (.int 3))) (aCons (oVal (eTup (aCons (oVal (eTup (aCons (oVal (eC (.int 1))) (aCons (oVal (eC (.int 0))) aNil)))) aNil))) aNil)))) aNil))))))))))) (sSeq (sSet 2 (eOp2 addD (oVal (eVar 2)) (oVal (eLst (aCons (oVal (eTup (aCons (oVal (eC (.int 3))) (aCons (oVal (eTup (aCons (oVal (eTup (aCons (oVal (eC (.int 0))) (aCons (oVal (eC (.int 1))) aNil)))) (aCons (oVal (eTup (aCons (oVal (eC (.int 0))) (aCons (oVal (eC (.int 1))) aNil)))) aNil)))) aNil)))) (aCons (oVal (eTup (aCons (oVal (eC (.int 3))) (aCons (oVal (eTup (aCons (oVal (eTup (aCons (oVal (eC (.int 1))) (aCons (oVal (eC (.int 2))) aNil)))) (aCons (oVal (eTup (aCons (oVal (eC (.int 0))) (aCons (oVal (eC (.int 1))) aNil)))) aNil)))) aNil)))) (aCons (oVal (eTup (aCons (oVal (eC (.int 3))) (aCons (oVal (eTup (aCons (oVal (eTup (aCons (oVal (eC (.int 0))) (aCons (oVal (eC (.bool true))) aNil)))) aNil))) aNil)))) (aCons (oVal (eC (.str "rooms 3"))) (aCons (oVal (eTup (aCons (oVal (eC (.int 3))) aNil))) aNil))))))))) (sRet (eCall 3 (some (1, 1)) m__law_pick (aCons (oVal (eVar 0)) (aCons (oLend 1) (aCons (oVal (eOp2 addD (oVal (eVar 2)) (oVal (eLst (aCons (oVal (eTup (aCons (oVal (eC (.int 3))) (aCons (oVal (eTup (aCons (oVal (eTup (aCons (oVal (eC (.int 0))) (aCons (oVal (eC (.int 3))) aNil)))) aNil))) aNil)))) (aCons (oVal (eTup (aCons (oVal (eC (.int 3))) (aCons (oVal (eTup (aCons (oVal (eTup (aCons (oVal (eC (.int 0))) (aCons (oVal (eC (.int 0))) aNil)))) aNil))) aNil)))) aNil)))))) aNil)))))))
def m__law_odd_house : List D → Res D := fnM (some 1) 2 1 body__law_odd_house
def Γ__law_odd_watchers : Nat → T := fun i => match i with | 1 => .lst .fz | _ => .fz
def body__law_odd_watchers : PD.Env → SR := (sSeq (sSet 2 (eLst (aCons (oVal (eC .none)) (aCons (oVal (eC (.int 5))) (aCons (oVal (eLst aNil)) (aCons (oVal (eTup (aCons (oVal (eTup (aCons (oVal (eTup (aCons (oVal (eC (.str "room"))) (aCons (oVal (eC (.int 0))) aNil)))) (aCons (oVal (eC (.str "#"))) aNil)))) aNil))) (aCons (oVal (eTup (aCons (oVal (eTup (aCons (oVal (eTup (aCons (oVal (eC (.str "room"))) (aCons (oVal (eC (.int 1))) aNil)))) (aCons (oVal (eC (.str ""))) aNil)))) aNil))) (aCons (oVal (eTup (aCons (oVal (eTup (aCons (oVal (eTup (aCons (oVal (eC (.str "room"))) (aCons (oVal (eC (.int 1))) aNil)))) (aCons (oVal (eC (.str "#######"))) aNil)))) aNil))) aNil)))))))) (sSeq (sSet 2 (eOp2 addD (oVal (eVar 2)) (oVal (eLst (aCons (oVal (eTup (aCons (oVal (eTup (aCons (oVal (eTup (aCons (oVal (eC (.str "room"))) (aCons (oVal (eC (.int 99))) aNil)))) (aCons (oVal (eC (.str "#"))) aNil)))) aNil))) (aCons (oVal (eTup (aCons (oVal (eTup (aCons (oVal (eTup (aCons (oVal (eC (.str "door"))) (aCons (oVal (eC (.int 1))) (aCons (oVal (eC (.int 0))) aNil))))) (aCons (oVal (eC (.str "#"))) aNil)))) aNil))) (aCons (oVal (eOp2 mulD (oVal (eTup (aCons (oVal (eTup (aCons (oVal (eTup (aCons (oVal (eC (.str "room"))) (aCons (oVal (eC (.int 1))) aNil)))) (aCons (oVal (eC (.str "#"))) aNil)))) aNil))) (oVal (eC (.int 2))))) (aCons (oVal (eTup (aCons (oVal (eTup (aCons (oVal (eTup (aCons (oVal (eC (.str "hall"))) (aCons (oVal (eC (.int 1))) aNil)))) (aCons (oVal (eC (.str "#"))) aNil)))) aNil))) aNil)))))))) (sSeq (sSet 2 (eOp2 addD (oVal (eVar 2)) (oVal (eLst (aCons (oVal (eTup (aCons (oVal (eTup (aCons (oVal (eTup (aCons (oVal (eC (.str "room"))) (aCons (oVal (eC (.int 1))) aNil)))) (aCons (oVal (eC .none)) aNil)))) aNil))) (aCons (oVal (eTup (aCons (oVal (eTup (aCons (oVal (eTup (aCons (oVal (eC (.str "room"))) (aCons (oVal (eC (.bool true))) aNil)))) (aCons (oVal (eC (.str "#"))) aNil)))) aNil))) (aCons (oVal (eTup (aCons (oVal (eTup (aCons (oVal (eC (.str "room"))) (aCons (oVal (eC (.int 1))) aNil)))) (aCons (oVal (eC (.str "#"))) aNil)))) (aCons (oVal (eTup (aCons (oVal (eTup (aCons (oVal (eTup (aCons (oVal (eC (.str "room"))) (aCons (oVal (eC (.int 1))) aNil)))) (aCons (oVal (eC (.str "x"))) aNil)))) aNil))) aNil)))))))) (sRet (eCall 3 (some (1, 1)) m__law_pick (aCons (oVal (eVar 0)) (aCons (oLend 1) (aCons (oVal (eVar 2)) aNil))))))))
def m__law_odd_watchers : List D → Res D := fnM (some 1) 2 1 body__law_odd_watchers
def Γ_spare : Nat → T := fun i => match i with | 2 => .lst .fz | _ => .fz
def fb_spare_1 : PD.Env → SR := (sIf (bOf (eCall 3 none m_closer (aCons (oVal (eVar 0)) (aCons (oVal (eOp2 addD (oVal (eSl slD (oVal (eVar 1)) pNone (pSome (eVar 3)))) (oVal (eSl slD (oVal (eVar 1)) (pSome (eOp2 addD (oVal (eVar 3)) (oVal (eC (.int 1))))) pNone)))) (aCons (oVal (eVar 1)) aNil))))) (sDrop (eMut 2 appD (aCons (oVal (eVar 3)) aNil))) sNil)
def body_spare : PD.Env → SR := (sSeq (sDrop (eCall 2 none m_need_watchers (aCons (oVal (eVar 0)) (aCons (oVal (eVar 1)) aNil)))) (sSeq (sSet 2 (eLst aNil)) (sSeq (sFor (.nm 3) (iRg1 (eOpN lenD (aCons (oVal (eVar 1)) aNil))) fb_spare_1) (sRet (eMov 2)))))
def m_spare : List D → Res D := fnM none 2 2 body_spare
def Γ_is_barred : Nat → T := fun _ => .fz
def le_is_barred_1 : PD.Env → Res D := (eOp2 inK (oVal (eVar 2)) (oVal (eVar 4)))
def body_is_barred : PD.Env → SR := (sRet (eNot (eOpN anyD (aCons (oVal (eLc (iOf (eCall 3 none m_ways_by_beat (aCons (oVal (eVar 0)) (aCons (oVal (eVar 1)) (aCons (oVal (eVar 3)) aNil))))) (.nm 4) bYes le_is_barred_1 [4])) aNil))))
def m_is_barred : List D → Res D := fnM none 4 1 body_is_barred
def Γ_with_one : Nat → T := fun _ => .fz
def body_with_one : PD.Env → SR := (sRet (eOpN tupleD (aCons (oVal (eOpN ssetD (aCons (oVal (eOp2 addD (oVal (eVar 0)) (oVal (eTup (aCons (oVal (eTup (aCons (oVal (eVar 1)) (aCons (oVal (eC (.str "#"))) aNil)))) aNil))))) aNil))) aNil)))
def m_with_one : List D → Res D := fnM none 2 0 body_with_one
def Γ_one_more : Nat → T := fun _ => .fz
def lt_one_more_1 : PD.Env → Res Bool := (bOf (eCall 4 none m_is_barred (aCons (oVal (eVar 0)) (aCons (oVal (eCall 2 none m_with_one (aCons (oVal (eVar 1)) (aCons (oVal (eVar 4)) aNil)))) (aCons (oVal (eVar 2)) (aCons (oVal (eVar 3)) aNil))))))
def le_one_more_1 : PD.Env → Res D := (eVar 4)
def body_one_more : PD.Env → SR := (sSeq (sDrop (eCall 4 none m_need_all (aCons (oVal (eVar 0)) (aCons (oVal (eVar 1)) (aCons (oVal (eVar 2)) (aCons (oVal (eVar 3)) aNil)))))) (sSeq (sIf (bOf (eOp2 eqD (oVal (eOpN lenD (aCons (oVal (eVar 1)) aNil))) (oVal (eC (.int 12))))) (sExc 4) sNil) (sRet (eLc (iOf (eCall 1 none m_all_spots (aCons (oVal (eVar 0)) aNil))) (.nm 4) lt_one_more_1 le_one_more_1 [4]))))
def m_one_more : List D → Res D := fnM none 4 1 body_one_more
def Γ_needed_for : Nat → T := fun i => match i with | 4 => .lst .fz | _ => .fz
def fb_needed_for_1 : PD.Env → SR := (sIf (bNot (bOf (eCall 4 none m_is_barred (aCons (oVal (eVar 0)) (aCons (oVal (eOp2 addD (oVal (eSl slD (oVal (eVar 1)) pNone (pSome (eVar 5)))) (oVal (eSl slD (oVal (eVar 1)) (pSome (eOp2 addD (oVal (eVar 5)) (oVal (eC (.int 1))))) pNone)))) (aCons (oVal (eVar 2)) (aCons (oVal (eVar 3)) aNil))))))) (sDrop (eMut 4 appD (aCons (oVal (eVar 5)) aNil))) sNil)
def body_needed_for : PD.Env → SR := (sSeq (sDrop (eCall 4 none m_need_all (aCons (oVal (eVar 0)) (aCons (oVal (eVar 1)) (aCons (oVal (eVar 2)) (aCons (oVal (eVar 3)) aNil)))))) (sSeq (sIf (bNot (bOf (eCall 4 none m_is_barred (aCons (oVal (eVar 0)) (aCons (oVal (eVar 1)) (aCons (oVal (eVar 2)) (aCons (oVal (eVar 3)) aNil))))))) (sRet (eLst aNil)) sNil) (sSeq (sSet 4 (eLst aNil)) (sSeq (sFor (.nm 5) (iRg1 (eOpN lenD (aCons (oVal (eVar 1)) aNil))) fb_needed_for_1) (sRet (eMov 4))))))
def m_needed_for : List D → Res D := fnM none 4 2 body_needed_for
def Γ_need_beats : Nat → T := fun _ => .fz
def body_need_beats : PD.Env → SR := (sIf (bNot (bOf (eCall 3 none m_is_whole (aCons (oVal (eVar 0)) (aCons (oVal (eC (.int 1))) (aCons (oVal (eC (.int 12))) aNil)))))) (sExc 4) sNil)
def m_need_beats : List D → Res D := fnM none 1 0 body_need_beats
def Γ_counts : Nat → T := fun i => match i with | 5 => .dct .fz | _ => .fz
def fb_counts_3 : PD.Env → SR := (sPutK 5 (eOp2 addD (oVal (eGet2 (oSlot 5) (oVal (eVar 7)) (eC (.int 0)))) (oVal (eOp2 ixK (oVal (eVar 3)) (oVal (eVar 6))))) (eVar 7))
def fb_counts_2 : PD.Env → SR := (sFor (.nm 7) (iOf (eCall 4 none m_steps_from (aCons (oVal (eVar 0)) (aCons (oVal (eVar 1)) (aCons (oVal (eVar 6)) (aCons (oVal (eVar 4)) aNil)))))) fb_counts_3)
def fb_counts_1 : PD.Env → SR := (sSeq (sSet 5 eDict0) (sSeq (sForK (.nm 6) 3 fb_counts_2) (sSet 3 (eMov 5))))
def body_counts : PD.Env → SR := (sSeq (sSet 3 (eDict1 (eC (.int 0)) (eC (.int 1)))) (sSeq (sFor (.nm 4) (iRg1 (eOp2 subD (oVal (eVar 2)) (oVal (eC (.int 1))))) fb_counts_1) (sRet (eVar 3))))
def m_counts : List D → Res D := fnM none 3 5 body_counts
def Γ_how_many : Nat → T := fun _ => .fz
def body_how_many : PD.Env → SR := (sSeq (sDrop (eCall 2 none m_need_watchers (aCons (oVal (eVar 0)) (aCons (oVal (eVar 1)) aNil)))) (sSeq (sDrop (eCall 1 none m_need_beats (aCons (oVal (eVar 2)) aNil))) (sRet (eOpN sumD (aCons (oVal (eOp1 listV (oVal (eCall 3 none m_counts (aCons (oVal (eVar 0)) (aCons (oVal (eVar 1)) (aCons (oVal (eVar 2)) aNil))))))) aNil)))))
def m_how_many : List D → Res D := fnM none 3 0 body_how_many
def Γ_how_many_to : Nat → T := fun _ => .fz
def body_how_many_to : PD.Env → SR := (sSeq (sDrop (eCall 2 none m_need_watchers (aCons (oVal (eVar 0)) (aCons (oVal (eVar 1)) aNil)))) (sSeq (sDrop (eCall 2 none m_need_goal (aCons (oVal (eVar 0)) (aCons (oVal (eVar 2)) aNil)))) (sSeq (sDrop (eCall 1 none m_need_beats (aCons (oVal (eVar 3)) aNil))) (sRet (eGet2 (oVal (eCall 3 none m_counts (aCons (oVal (eVar 0)) (aCons (oVal (eVar 1)) (aCons (oVal (eVar 3)) aNil))))) (oVal (eVar 2)) (eC (.int 0)))))))
def m_how_many_to : List D → Res D := fnM none 4 0 body_how_many_to
def Γ_added : Nat → T := fun _ => .fz
def fb_added_1 : PD.Env → SR := (sPar 4 5 (aCons (oVal (eVar 5)) (aCons (oVal (eOp2 modD (oVal (eVar 4)) (oVal (eVar 5)))) aNil)))
def wt_added_1 : PD.Env → Res Bool := (bOf (eOp2 neD (oVal (eVar 5)) (oVal (eC (.int 0)))))
def body_added : PD.Env → SR := (sSeq (sPar 2 3 (aCons (oVal (eOp2 addD (oVal (eOp2 mulD (oVal (eOp2 ixD (oVal (eVar 0)) (oVal (eC (.int 0))))) (oVal (eOp2 ixD (oVal (eVar 1)) (oVal (eC (.int 1))))))) (oVal (eOp2 mulD (oVal (eOp2 ixD (oVal (eVar 1)) (oVal (eC (.int 0))))) (oVal (eOp2 ixD (oVal (eVar 0)) (oVal (eC (.int 1))))))))) (aCons (oVal (eOp2 mulD (oVal (eOp2 ixD (oVal (eVar 0)) (oVal (eC (.int 1))))) (oVal (eOp2 ixD (oVal (eVar 1)) (oVal (eC (.int 1))))))) aNil))) (sSeq (sPar 4 5 (aCons (oVal (eVar 3)) (aCons (oVal (eVar 2)) aNil))) (sSeq (sWhile wt_added_1 fb_added_1) (sRet (eTup (aCons (oVal (eOp2 fdivD (oVal (eVar 2)) (oVal (eVar 4)))) (aCons (oVal (eOp2 fdivD (oVal (eVar 3)) (oVal (eVar 4)))) aNil)))))))
def m_added : List D → Res D := fnM none 2 4 body_added
def Γ_chance : Nat → T := fun i => match i with | 5 => .dct .fz | _ => .fz
def fb_chance_4 : PD.Env → SR := (sSet 10 (eCall 2 none m_added (aCons (oVal (eVar 10)) (aCons (oVal (eOp2 ixK (oVal (eVar 3)) (oVal (eVar 6)))) aNil))))
def fb_chance_3 : PD.Env → SR := (sPutK 5 (eCall 2 none m_added (aCons (oVal (eGet2 (oSlot 5) (oVal (eVar 9)) (eTup (aCons (oVal (eC (.int 0))) (aCons (oVal (eC (.int 1))) aNil))))) (aCons (oVal (eTup (aCons (oVal (eVar 7)) (aCons (oVal (eVar 8)) aNil)))) aNil))) (eVar 9))
def fb_chance_2 : PD.Env → SR := (sSeq (sAsg (.tp [(.nm 7), (.nm 8)]) (eOp2 ixK (oVal (eVar 3)) (oVal (eVar 6)))) (sSeq (sSet 8 (eOp2 mulD (oVal (eVar 8)) (oVal (eOp2 addD (oVal (eOpN lenD (aCons (oVal (eCall 2 none m_beside (aCons (oVal (eVar 0)) (aCons (oVal (eVar 6)) aNil)))) aNil))) (oVal (eC (.int 1))))))) (sFor (.nm 9) (iOf (eCall 4 none m_steps_from (aCons (oVal (eVar 0)) (aCons (oVal (eVar 1)) (aCons (oVal (eVar 6)) (aCons (oVal (eVar 4)) aNil)))))) fb_chance_3)))
def fb_chance_1 : PD.Env → SR := (sSeq (sSet 5 eDict0) (sSeq (sForK (.nm 6) 3 fb_chance_2) (sSet 3 (eMov 5))))
def body_chance : PD.Env → SR := (sSeq (sDrop (eCall 2 none m_need_watchers (aCons (oVal (eVar 0)) (aCons (oVal (eVar 1)) aNil)))) (sSeq (sDrop (eCall 1 none m_need_beats (aCons (oVal (eVar 2)) aNil))) (sSeq (sSet 3 (eDict1 (eC (.int 0)) (eTup (aCons (oVal (eC (.int 1))) (aCons (oVal (eC (.int 1))) aNil))))) (sSeq (sFor (.nm 4) (iRg1 (eOp2 subD (oVal (eVar 2)) (oVal (eC (.int 1))))) fb_chance_1) (sSeq (sSet 10 (eTup (aCons (oVal (eC (.int 0))) (aCons (oVal (eC (.int 1))) aNil)))) (sSeq (sForK (.nm 6) 3 fb_chance_4) (sRet (eVar 10))))))))
def m_chance : List D → Res D := fnM none 3 8 body_chance
def Γ_short_beats : Nat → T := fun _ => .fz
def fb_short_beats_1 : PD.Env → SR := (sIf (bAnd (bOf (eOp2 eqD (oVal (eOp2 modD (oVal (eOpN lenD (aCons (oVal (eVar 0)) aNil))) (oVal (eVar 1)))) (oVal (eC (.int 0))))) (bOf (eOp2 eqD (oVal (eOp2 mulD (oVal (eSl slD (oVal (eVar 0)) pNone (pSome (eVar 1)))) (oVal (eOp2 fdivD (oVal (eOpN lenD (aCons (oVal (eVar 0)) aNil))) (oVal (eVar 1)))))) (oVal (eVar 0))))) (sRet (eSl slD (oVal (eVar 0)) pNone (pSome (eVar 1)))) sNil)
def body_short_beats : PD.Env → SR := (sSeq (sFor (.nm 1) (iRg2 (eC (.int 1)) (eOp2 addD (oVal (eOpN lenD (aCons (oVal (eVar 0)) aNil))) (oVal (eC (.int 1))))) fb_short_beats_1) (sRet (eVar 0)))
def m_short_beats : List D → Res D := fnM none 1 1 body_short_beats
def Γ_plain_watchers : Nat → T := fun _ => .fz
def lt_plain_watchers_1 : PD.Env → Res Bool := (bOf (eOp2 inD (oVal (eC (.str "#"))) (oVal (eVar 4))))
def le_plain_watchers_1 : PD.Env → Res D := (eTup (aCons (oVal (eVar 3)) (aCons (oVal (eCall 1 none m_short_beats (aCons (oVal (eVar 4)) aNil))) aNil)))
def body_plain_watchers : PD.Env → SR := (sSeq (sDrop (eCall 2 none m_need_watchers (aCons (oVal (eVar 0)) (aCons (oVal (eVar 1)) aNil)))) (sSeq (sSet 2 (eLc (iOf (eVar 1)) (.tp [(.nm 3), (.nm 4)]) lt_plain_watchers_1 le_plain_watchers_1 [3, 4])) (sRet (eOpN tupleD (aCons (oVal (eOpN ssetD (aCons (oVal (eVar 2)) aNil))) aNil)))))
def m_plain_watchers : List D → Res D := fnM none 2 3 body_plain_watchers
def Γ_all_seeing : Nat → T := fun _ => .fz
def lt_all_seeing_1 : PD.Env → Res Bool := (bOf (eOp2 eqD (oVal (eOp2 ixD (oVal (eVar 4)) (oVal (eOp2 modD (oVal (eVar 2)) (oVal (eOpN lenD (aCons (oVal (eVar 4)) aNil))))))) (oVal (eC (.str "#")))))
def le_all_seeing_1 : PD.Env → Res D := (eVar 3)
def body_all_seeing : PD.Env → SR := (sSeq (sDrop (eCall 2 none m_need_watchers (aCons (oVal (eVar 0)) (aCons (oVal (eVar 1)) aNil)))) (sSeq (sIf (bNot (bOf (eCall 3 none m_is_whole (aCons (oVal (eVar 2)) (aCons (oVal (eC (.int 0))) (aCons (oVal (eC (.int 999))) aNil)))))) (sExc 4) sNil) (sRet (eOpN ssetD (aCons (oVal (eLc (iOf (eVar 1)) (.tp [(.nm 3), (.nm 4)]) lt_all_seeing_1 le_all_seeing_1 [3, 4])) aNil)))))
def m_all_seeing : List D → Res D := fnM none 3 2 body_all_seeing
def Γ_common : Nat → T := fun _ => .fz
def fb_common_1 : PD.Env → SR := (sPar 2 3 (aCons (oVal (eVar 3)) (aCons (oVal (eOp2 modD (oVal (eVar 2)) (oVal (eVar 3)))) aNil)))
def wt_common_1 : PD.Env → Res Bool := (bOf (eOp2 neD (oVal (eVar 3)) (oVal (eC (.int 0)))))
def body_common : PD.Env → SR := (sSeq (sPar 2 3 (aCons (oVal (eVar 0)) (aCons (oVal (eVar 1)) aNil))) (sSeq (sWhile wt_common_1 fb_common_1) (sRet (eOp2 fdivD (oVal (eOp2 mulD (oVal (eVar 0)) (oVal (eVar 1)))) (oVal (eVar 2))))))
def m_common : List D → Res D := fnM none 2 2 body_common
def Γ_period : Nat → T := fun _ => .fz
def fb_period_1 : PD.Env → SR := (sSet 2 (eCall 2 none m_common (aCons (oVal (eVar 2)) (aCons (oVal (eOpN lenD (aCons (oVal (eVar 4)) aNil))) aNil))))
def body_period : PD.Env → SR := (sSeq (sSet 2 (eC (.int 1))) (sSeq (sFor (.tp [(.nm 3), (.nm 4)]) (iOf (eCall 2 none m_plain_watchers (aCons (oVal (eVar 0)) (aCons (oVal (eVar 1)) aNil)))) fb_period_1) (sRet (eVar 2))))
def m_period : List D → Res D := fnM none 2 3 body_period
def Γ_watchers_later : Nat → T := fun i => match i with | 3 => .lst .fz | _ => .fz
def fb_watchers_later_1 : PD.Env → SR := (sSeq (sSet 6 (eOp2 modD (oVal (eVar 2)) (oVal (eOpN lenD (aCons (oVal (eVar 5)) aNil))))) (sDrop (eMut 3 appD (aCons (oVal (eTup (aCons (oVal (eVar 4)) (aCons (oVal (eOp2 addD (oVal (eSl slD (oVal (eVar 5)) (pSome (eVar 6)) pNone)) (oVal (eSl slD (oVal (eVar 5)) pNone (pSome (eVar 6)))))) aNil)))) aNil))))
def body_watchers_later : PD.Env → SR := (sSeq (sDrop (eCall 2 none m_need_watchers (aCons (oVal (eVar 0)) (aCons (oVal (eVar 1)) aNil)))) (sSeq (sIf (bNot (bOf (eCall 3 none m_is_whole (aCons (oVal (eVar 2)) (aCons (oVal (eC (.int 0))) (aCons (oVal (eC (.int 999))) aNil)))))) (sExc 4) sNil) (sSeq (sSet 3 (eLst aNil)) (sSeq (sFor (.tp [(.nm 4), (.nm 5)]) (iOf (eVar 1)) fb_watchers_later_1) (sRet (eOpN tupleD (aCons (oVal (eOpN ssetD (aCons (oSlot 3) aNil))) aNil)))))))
def m_watchers_later : List D → Res D := fnM none 3 4 body_watchers_later
def Γ_need_names : Nat → T := fun _ => .fz
def le_need_names_1 : PD.Env → Res D := (eCall 3 none m_is_whole (aCons (oVal (eVar 2)) (aCons (oVal (eC (.int 0))) (aCons (oVal (eOp2 subD (oVal (eOp2 ixD (oVal (eVar 0)) (oVal (eC (.int 0))))) (oVal (eC (.int 1))))) aNil))))
def body_need_names : PD.Env → SR := (sSeq (sIf (bOr (bNot (bOf (eOp1 (isiD .tuple) (oVal (eVar 1))))) (bNot (bOf (eOpN allD (aCons (oVal (eLc (iOf (eVar 1)) (.nm 2) bYes le_need_names_1 [2])) aNil))))) (sExc 10) sNil) (sIf (bOr (bOf (eOp2 neD (oVal (eOpN sortAD (aCons (oVal (eVar 1)) aNil))) (oVal (eR1 rgLD (eOp2 ixD (oVal (eVar 0)) (oVal (eC (.int 0)))))))) (bOf (eOp2 neD (oVal (eOp2 ixD (oVal (eVar 1)) (oVal (eC (.int 0))))) (oVal (eC (.int 0)))))) (sExc 10) sNil))
def m_need_names : List D → Res D := fnM none 2 1 body_need_names
def Γ_called : Nat → T := fun _ => .fz
def le_called_1 : PD.Env → Res D := (eOp2 ixD (oVal (eVar 1)) (oVal (eVar 3)))
def body_called : PD.Env → SR := (sSeq (sIf (bOf (eOp2 eqD (oVal (eOp2 ixD (oVal (eVar 0)) (oVal (eC (.int 0))))) (oVal (eC (.str "room"))))) (sRet (eTup (aCons (oVal (eC (.str "room"))) (aCons (oVal (eOp2 ixD (oVal (eVar 1)) (oVal (eOp2 ixD (oVal (eVar 0)) (oVal (eC (.int 1))))))) aNil)))) sNil) (sSeq (sSet 2 (eOpN sortD (aCons (oVal (eLc (iOf (eSl slD (oVal (eVar 0)) (pSome (eOp1 negD (oVal (eC (.int 2))))) pNone)) (.nm 3) bYes le_called_1 [3])) aNil))) (sRet (eOp2 addD (oVal (eSl slD (oVal (eVar 0)) pNone (pSome (eOp1 negD (oVal (eC (.int 2))))))) (oVal (eTup (aCons (oVal (eOp2 ixD (oVal (eVar 2)) (oVal (eC (.int 0))))) (aCons (oVal (eOp2 ixD (oVal (eVar 2)) (oVal (eC (.int 1))))) aNil))))))))
def m_called : List D → Res D := fnM none 2 2 body_called
def Γ_renamed : Nat → T := fun _ => .fz
def le_renamed_1 : PD.Env → Res D := (eCall 2 none m_called (aCons (oVal (eVar 2)) (aCons (oVal (eVar 1)) aNil)))
def body_renamed : PD.Env → SR := (sSeq (sDrop (eCall 1 none m_need_house (aCons (oVal (eVar 0)) aNil))) (sSeq (sDrop (eCall 2 none m_need_names (aCons (oVal (eVar 0)) (aCons (oVal (eVar 1)) aNil)))) (sRet (eTup (aCons (oVal (eOp2 ixD (oVal (eVar 0)) (oVal (eC (.int 0))))) (aCons (oVal (eOpN tupleD (aCons (oVal (eOpN sortD (aCons (oVal (eLc (iOf (eOp2 ixD (oVal (eVar 0)) (oVal (eC (.int 1))))) (.nm 2) bYes le_renamed_1 [2])) aNil))) aNil))) aNil))))))
def m_renamed : List D → Res D := fnM none 2 1 body_renamed
def Γ_renamed_watchers : Nat → T := fun _ => .fz
def le_renamed_watchers_1 : PD.Env → Res D := (eTup (aCons (oVal (eCall 2 none m_called (aCons (oVal (eVar 3)) (aCons (oVal (eVar 2)) aNil)))) (aCons (oVal (eVar 4)) aNil)))
def body_renamed_watchers : PD.Env → SR := (sSeq (sDrop (eCall 2 none m_need_watchers (aCons (oVal (eVar 0)) (aCons (oVal (eVar 1)) aNil)))) (sSeq (sDrop (eCall 2 none m_need_names (aCons (oVal (eVar 0)) (aCons (oVal (eVar 2)) aNil)))) (sRet (eOpN tupleD (aCons (oVal (eOpN sortD (aCons (oVal (eLc (iOf (eVar 1)) (.tp [(.nm 3), (.nm 4)]) bYes le_renamed_watchers_1 [3, 4])) aNil))) aNil)))))
def m_renamed_watchers : List D → Res D := fnM none 3 2 body_renamed_watchers
def Γ_renamed_way : Nat → T := fun _ => .fz
def le_renamed_way_1 : PD.Env → Res D := (eOp2 ixD (oVal (eVar 2)) (oVal (eVar 3)))
def body_renamed_way : PD.Env → SR := (sSeq (sDrop (eCall 1 none m_need_house (aCons (oVal (eVar 0)) aNil))) (sSeq (sIf (bNot (bOf (eCall 2 none m_is_way (aCons (oVal (eVar 0)) (aCons (oVal (eVar 1)) aNil))))) (sExc 3) sNil) (sSeq (sDrop (eCall 2 none m_need_names (aCons (oVal (eVar 0)) (aCons (oVal (eVar 2)) aNil)))) (sRet (eOpN tupleD (aCons (oVal (eLc (iOf (eVar 1)) (.nm 3) bYes le_renamed_way_1 [3])) aNil))))))
def m_renamed_way : List D → Res D := fnM none 3 1 body_renamed_way
def Γ_watching : Nat → T := fun i => match i with | 6 => .lst .fz | _ => .fz
def fb_watching_1 : PD.Env → SR := (sIf (bAnd (bOf (eOp2 inD (oVal (eVar 8)) (oVal (eVar 5)))) (bOf (eOp2 eqD (oVal (eOp2 ixD (oVal (eVar 9)) (oVal (eOp2 modD (oVal (eVar 2)) (oVal (eOpN lenD (aCons (oVal (eVar 9)) aNil))))))) (oVal (eC (.str "#")))))) (sDrop (eMut 6 appD (aCons (oVal (eVar 7)) aNil))) sNil)
def body_watching : PD.Env → SR := (sSeq (sPar 3 4 (aCons (oVal (eOp2 ixD (oVal (eVar 1)) (oVal (eVar 2)))) (aCons (oVal (eOp2 ixD (oVal (eVar 1)) (oVal (eOp2 addD (oVal (eVar 2)) (oVal (eC (.int 1))))))) aNil))) (sSeq (sSet 5 (eOp2 addD (oVal (eLst (aCons (oVal (eTup (aCons (oVal (eC (.str "room"))) (aCons (oVal (eVar 3)) aNil)))) aNil))) (oVal (eOp2 mulD (oVal (eLst (aCons (oVal (eTup (aCons (oVal (eC (.str "door"))) (aCons (oVal (eOpN min2D (aCons (oVal (eVar 3)) (aCons (oVal (eVar 4)) aNil)))) (aCons (oVal (eOpN max2D (aCons (oVal (eVar 3)) (aCons (oVal (eVar 4)) aNil)))) aNil))))) aNil))) (oVal (eOpN intOfD (aCons (oVal (eOp2 neD (oVal (eVar 3)) (oVal (eVar 4)))) aNil))))))) (sSeq (sSet 6 (eLst aNil)) (sSeq (sFor (.tp [(.nm 7), (.tp [(.nm 8), (.nm 9)])]) (iEnumD (eVar 0)) fb_watching_1) (sRet (eOpN tupleD (aCons (oSlot 6) aNil)))))))
def m_watching : List D → Res D := fnM none 3 7 body_watching
def Γ_told_by : Nat → T := fun _ => .fz
def le_told_by_1 : PD.Env → Res D := (eCall 3 none m_watching (aCons (oVal (eVar 0)) (aCons (oVal (eVar 1)) (aCons (oVal (eVar 2)) aNil))))
def body_told_by : PD.Env → SR := (sRet (eLc (iRg1 (eOp2 subD (oVal (eOpN lenD (aCons (oVal (eVar 1)) aNil))) (oVal (eC (.int 1))))) (.nm 2) bYes le_told_by_1 [2]))
def m_told_by : List D → Res D := fnM none 2 1 body_told_by
end U

set_option Elab.async false
set_option linter.all false
set_option maxRecDepth 100000
set_option maxHeartbeats 4000000
namespace U
open PySem PySem.Spec PyProof.Rows L2 RZ PD
def Γ__law_house : Nat → T := fun i => match i with | 1 => .lst .fz | 5 => .lst .fz | _ => .fz
def fb__law_house_2 : PD.Env → SR := (sIf (bOr (bOf (eOp2 ltD (oVal (eCall 3 (some (1, 1)) m__law_draw (aCons (oVal (eVar 0)) (aCons (oLend 1) (aCons (oVal (eC (.int 6))) aNil))))) (oVal (eVar 3)))) (bAnd (bOf (eOp2 eqD (oVal (eVar 7)) (oVal (eOp2 subD (oVal (eVar 6)) (oVal (eC (.int 1))))))) (bOf (eOp2 gtD (oVal (eCall 3 (some (1, 1)) m__law_draw (aCons (oVal (eVar 0)) (aCons (oLend 1) (aCons (oVal (eC (.int 5))) aNil))))) (oVal (eC (.int 0))))))) (sDrop (eMut 5 appD (aCons (oVal (eTup (aCons (oVal (eVar 7)) (aCons (oVal (eVar 6)) aNil)))) aNil))) sNil)
def fb__law_house_1 : PD.Env → SR := (sFor (.nm 7) (iRg1 (eVar 6)) fb__law_house_2)
def body__law_house : PD.Env → SR := (sSeq (sSet 3 (eCall 3 (some (1, 1)) m__law_draw (aCons (oVal (eVar 0)) (aCons (oLend 1) (aCons (oVal (eC (.int 4))) aNil))))) (sSeq (sSet 4 (eOp2 addD (oVal (eC (.int 2))) (oVal (eCall 3 (some (1, 1)) m__law_draw (aCons (oVal (eVar 0)) (aCons (oLend 1) (aCons (oVal (eOp2 subD (oVal (eVar 2)) (oVal (eC (.int 1))))) aNil))))))) (sSeq (sSet 5 (eLst aNil)) (sSeq (sFor (.nm 6) (iRg2 (eC (.int 1)) (eVar 4)) fb__law_house_1) (sRet (eTup (aCons (oVal (eVar 4)) (aCons (oVal (eOpN tupleD (aCons (oVal (eSl slD (oVal (eOpN sortD (aCons (oSlot 5) aNil))) pNone (pSome (eC (.int 20))))) aNil))) aNil))))))))
def m__law_house : List D → Res D := fnM (some 1) 3 5 body__law_house
def Γ__law_spots : Nat → T := fun i => match i with | 1 => .lst .fz | _ => .fz
def le__law_spots_2 : PD.Env → Res D := (eTup (aCons (oVal (eC (.str "room"))) (aCons (oVal (eVar 4)) aNil)))
def fb__law_spots_1 : PD.Env → SR := (sDrop (eMut 1 appD (aCons (oVal (eTup (aCons (oVal (eC (.str "door"))) (aCons (oVal (eVar 2)) (aCons (oVal (eVar 3)) aNil))))) aNil)))
def body__law_spots : PD.Env → SR := (sSeq (sSet 1 (eLst aNil)) (sSeq (sFor (.tp [(.nm 2), (.nm 3)]) (iOf (eOp2 ixD (oVal (eVar 0)) (oVal (eC (.int 1))))) fb__law_spots_1) (sRet (eOpN sortD (aCons (oVal (eOp2 addD (oSlot 1) (oVal (eLc (iRg2 (eC (.int 1)) (eOp2 ixD (oVal (eVar 0)) (oVal (eC (.int 0))))) (.nm 4) bYes le__law_spots_2 [4])))) aNil)))))
def m__law_spots : List D → Res D := fnM none 1 4 body__law_spots
def Γ__law_open : Nat → T := fun i => match i with | 3 => .lst .fz | 5 => .lst .fz | _ => .fz
def fb__law_open_3 : PD.Env → SR := (sIf (bAnd (bOf (eOp2 notInD (oVal (eVar 7)) (oSlot 5))) (bOf (eOp2 eqD (oVal (eCall 4 none m__law_step (aCons (oVal (eVar 1)) (aCons (oVal (eVar 6)) (aCons (oVal (eVar 7)) (aCons (oVal (eVar 4)) aNil)))))) (oVal (eC (.int 0)))))) (sDrop (eMut 5 appD (aCons (oVal (eVar 7)) aNil))) sNil)
def fb__law_open_2 : PD.Env → SR := (sFor (.nm 7) (iOf (eCall 2 none m__law_beside (aCons (oVal (eVar 0)) (aCons (oVal (eVar 6)) aNil)))) fb__law_open_3)
def fb__law_open_1 : PD.Env → SR := (sSeq (sSet 5 (eLst aNil)) (sSeq (sFor (.nm 6) (iOf (eOp2 ixD (oSlot 3) (oVal (eOp1 negD (oVal (eC (.int 1))))))) fb__law_open_2) (sDrop (eMut 3 appD (aCons (oVal (eOpN sortD (aCons (oSlot 5) aNil))) aNil)))))
def body__law_open : PD.Env → SR := (sSeq (sSet 3 (eLst (aCons (oVal (eLst (aCons (oVal (eC (.int 0))) aNil))) aNil))) (sSeq (sFor (.nm 4) (iRg1 (eOp2 subD (oVal (eVar 2)) (oVal (eC (.int 1))))) fb__law_open_1) (sRet (eMov 3))))
def m__law_open : List D → Res D := fnM none 3 5 body__law_open
def Γ__law_watchers : Nat → T := fun i => match i with | 1 => .lst .fz | 4 => .lst .fz | _ => .fz
def fb__law_watchers_1 : PD.Env → SR := (sSeq (sSet 6 (eCall 3 (some (1, 1)) m__law_pick (aCons (oVal (eVar 0)) (aCons (oLend 1) (aCons (oVal (eLst (aCons (oVal (eC (.str "#"))) (aCons (oVal (eC (.str "#."))) (aCons (oVal (eC (.str ".#"))) (aCons (oVal (eC (.str "##."))) (aCons (oVal (eC (.str "..#"))) (aCons (oVal (eC (.str "#..#"))) (aCons (oVal (eC (.str ".#.#"))) (aCons (oVal (eC (.str "..."))) (aCons (oVal (eC (.str "#.#.#."))) (aCons (oVal (eC (.str ".##..#"))) aNil)))))))))))) aNil))))) (sSeq (sSet 7 (eTup (aCons (oVal (eCall 3 (some (1, 1)) m__law_pick (aCons (oVal (eVar 0)) (aCons (oLend 1) (aCons (oVal (eCall 1 none m__law_spots (aCons (oVal (eVar 2)) aNil))) aNil))))) (aCons (oVal (eVar 6)) aNil)))) (sIf (bOf (eOp2 notInD (oVal (eVar 7)) (oSlot 4))) (sDrop (eMut 4 appD (aCons (oVal (eVar 7)) aNil))) sNil)))
def body__law_watchers : PD.Env → SR := (sSeq (sSet 4 (eLst aNil)) (sSeq (sFor (.nm 5) (iRg1 (eCall 3 (some (1, 1)) m__law_draw (aCons (oVal (eVar 0)) (aCons (oLend 1) (aCons (oVal (eOp2 addD (oVal (eVar 3)) (oVal (eC (.int 1))))) aNil))))) fb__law_watchers_1) (sRet (eOpN tupleD (aCons (oVal (eOpN sortD (aCons (oSlot 4) aNil))) aNil)))))
def m__law_watchers : List D → Res D := fnM (some 1) 4 4 body__law_watchers
end U

set_option maxRecDepth 100000
set_option linter.all false
namespace U
open PySem PySem.Spec PyProof.Rows L2 RZ PD
theorem is_whole_ok (d : D) (lo hi : Int) (nd : ∀ es, d ≠ .dict es) : m_is_whole [d, .int lo, .int hi] = .ok (.bool (wh d lo hi)) [none, none, none] := by
  cases d with
  | dict es => exact absurd rfl (nd es)
  | int i =>
    simp [m_is_whole, fnM, outE, body_is_whole, isiD, isi, leD_int, wh]
    by_cases h : lo ≤ i <;> simp [h]
  | _ => simp [m_is_whole, fnM, outE, body_is_whole, isiD, isi, wh]
abbrev scr (ns : List Int) : D := .list (ns.map .int)
theorem scr_at {ns : List Int} {k : Int} (h0 : 0 ≤ k) (h1 : k < ns.length) : ∃ v, ixD (scr ns) (.int k) = some (.int v) := by
  have hk : k.toNat < ns.length := by omega
  refine ⟨ns[k.toNat], ?_⟩
  simp [ixD, L2.atI, ixN, h0, h1, hk]
theorem scr_shp (ns : List Int) : shp 1 (scr ns) = true := by
  simp [shp, shpAll_iff]
theorem eqv_nil (ns : List Int) : PyData.eqv (scr ns) (.list []) = ns.isEmpty := by
  cases ns <;> simp [PyData.eqv, PyData.eqvAll]
theorem cell_ok (ns : List Int) (k : Int) (h0 : 0 ≤ k) : ∃ v, m__law_cell_at [scr ns, .int k] = .ok (.int v) [none, none] := by
  by_cases h : k < ns.length
  · obtain ⟨v, hv⟩ := scr_at h0 h
    refine ⟨v, ?_⟩
    simp [m__law_cell_at, fnM, outE, body__law_cell_at, lenD, derefs, ltD_int, boolD, h, hv]
  · have e := eqD_shp (n := 1) (m := 1) (scr_shp ns) (show shp 1 (.list []) = true from rfl)
    rw [eqv_nil] at e
    cases hn : ns with
    | nil =>
      subst hn
      refine ⟨0, ?_⟩
      have h' : ¬ k < 0 := by omega
      simp [m__law_cell_at, fnM, outE, body__law_cell_at, lenD, derefs, ltD_int, boolD, h', valsOf]
      simp at e
      simp [e]
    | cons a r =>
      have hp : (0 : Int) < (ns.length : Int) := by rw [hn]; simp
      have hp' : 0 < ns.length := by omega
      have q1 : 0 ≤ k % (ns.length : Int) := Int.emod_nonneg _ (by omega)
      have q2 : k % (ns.length : Int) < ns.length := Int.emod_lt_of_pos _ hp
      obtain ⟨v, hv⟩ := scr_at q1 q2
      refine ⟨v * 31 + k, ?_⟩
      rw [← hn]
      have e' : ns.isEmpty = false := by rw [hn]; rfl
      rw [e'] at e
      simp [m__law_cell_at, fnM, outE, body__law_cell_at, lenD, derefs, ltD_int, boolD, h, valsOf, e, modD, hp', hv, mulD, smallI, addD]
@[simp] theorem addD_int (a b : Int) : addD (.int a) (.int b) = some (.int (a + b)) := rfl
@[simp] theorem subD_int (a b : Int) : subD (.int a) (.int b) = some (.int (a - b)) := rfl
theorem mulD_r (a b : Int) (h : smallI b = true) : mulD (.int a) (.int b) = some (.int (a * b)) := by simp [mulD, h]
theorem mulD_l (a b : Int) (h : smallI a = true) : mulD (.int a) (.int b) = some (.int (a * b)) := by simp [mulD, h]
theorem modD_int (a b : Int) (h : 0 < b) : modD (.int a) (.int b) = some (.int (a % b)) := by simp [modD, h]
theorem powD_int (a b : Int) (h : 0 ≤ b ∧ b ≤ 1000 ∧ a.natAbs < 2 ^ 64) : powD (.int a) (.int b) = some (.int (a ^ b.toNat)) := by simp [powD, h]
theorem mixed_ok (ns : List Int) (k n : Int) (h0 : 0 ≤ k) (hn : 0 < n) : ∃ r, m__law_mixed [scr ns, .int k, .int n] = .ok (.int r) [none, none, none] ∧ 0 ≤ r ∧ r < n := by
  obtain ⟨v, hv⟩ := cell_ok ns k h0
  have hq1 : 0 ≤ (v * 1103515245 + 7919 * k + 12345) % 2147483647 := Int.emod_nonneg _ (by decide)
  have hq2 : (v * 1103515245 + 7919 * k + 12345) % 2147483647 < 2147483647 := Int.emod_lt_of_pos _ (by decide)
  have hp : ((v * 1103515245 + 7919 * k + 12345) % 2147483647).natAbs < 2 ^ 64 := by omega
  refine ⟨((v * 1103515245 + 7919 * k + 12345) % 2147483647) ^ 5 % 2147483647 % 999983 % n, ?_, Int.emod_nonneg _ (by omega), Int.emod_lt_of_pos _ hn⟩
  have c := call2 (ρ := [some (scr ns), some (.int k), some (.int n), none]) hv
  have m1 := mulD_r v 1103515245 (by decide)
  have m2 := mulD_l 7919 k (by decide)
  have d1 := modD_int (v * 1103515245 + 7919 * k + 12345) 2147483647 (by decide)
  have p1 := powD_int ((v * 1103515245 + 7919 * k + 12345) % 2147483647) 5 ⟨by decide, by decide, hp⟩
  have p2 := fun x => modD_int x 2147483647 (by decide)
  have p3 := fun x => modD_int x 999983 (by decide)
  have p4 := fun x => modD_int x n hn
  simp [m__law_mixed, fnM, outE, body__law_mixed, c, m1, m2, d1, p1, p2, p3, p4]
theorem draw_ok (ns : List Int) (tw : List D) (n : Int) (hn : 0 < n) (hl : tw.length < lim) : ∃ r, m__law_draw [scr ns, .list tw, .int n] = .ok (.int r) [none, some (.list (tw ++ [.int 0])), none] ∧ 0 ≤ r ∧ r < n := by
  obtain ⟨r, hr, h1, h2⟩ := mixed_ok ns ((tw.length : Int) + 1) n (by omega) hn
  refine ⟨r, ?_, h1, h2⟩
  have c := call3 (ρ := [some (scr ns), some (.list (tw ++ [.int 0])), some (.int n)]) hr
  have hl' : tw.length + 1 ≤ lim := hl
  simp [m__law_draw, fnM, outE, body__law_draw, eMut, valsOf, appD, hl, hl', lenD, derefs, c]
theorem pick_ok (ns : List Int) (tw some_ : List D) (h0 : some_ ≠ []) (hl : tw.length < lim) : ∃ d, d ∈ some_ ∧ m__law_pick [scr ns, .list tw, .list some_] = .ok d [none, some (.list (tw ++ [.int 0])), none] := by
  have hp : 0 < some_.length := List.length_pos_iff.mpr h0
  obtain ⟨r, hr, h1, h2⟩ := draw_ok ns tw (some_.length : Int) (by omega) hl
  have hi : r.toNat < some_.length := by omega
  refine ⟨some_[r.toNat], List.getElem_mem hi, ?_⟩
  have hx : ixD (.list some_) (.int r) = some some_[r.toNat] := by simp [ixD, L2.atI, ixN, h1, h2, hi]
  simp [m__law_pick, fnM, outE, body__law_pick, lenD, derefs, callM, argIn, hr, putOut, hx]
end U

set_option maxRecDepth 100000
set_option linter.all false
set_option maxHeartbeats 4000000
namespace U
open PySem PySem.Spec PyProof.Rows L2 RZ PD
open PySem.W (dataLt alike alikeAll keyToks keyToksAll)

theorem drop1 (ds : List D) : PD.cutD ds (some 1) none = ds.tail := by
  unfold PD.cutD
  rw [HT.sIx_none, show HT.sIx ds.length 0 (some 1) = min 1 ds.length from HT.sIx_nat _ _ 1]
  cases ds with
  | nil => rfl
  | cons a r => simp
theorem mem_zip1 : ∀ {ds : List D} {p : D}, p ∈ zipD ds ds.tail → ∃ l a b r, ds = l ++ a :: b :: r ∧ p = .tuple [a, b]
  | [], p, h => by simp [zipD] at h
  | [a], p, h => by simp [zipD] at h
  | a :: b :: r, p, h => by
    have h' : p = .tuple [a, b] ∨ p ∈ zipD (b :: r) (b :: r).tail := by simpa [zipD] using h
    rcases h' with rfl | h'
    · exact ⟨[], a, b, r, rfl, rfl⟩
    · obtain ⟨l, c, d, t, e, rfl⟩ := mem_zip1 h'
      exact ⟨a :: l, c, d, t, by rw [e]; rfl, rfl⟩
theorem all_true (l : List D) : boolsD (l.map fun _ => .bool true) = some (l.map fun _ => true) := by
  induction l with
  | nil => rfl
  | cons a l ih => simp [boolsD, ih]
theorem allD_true (l : List D) : allD [.list (l.map fun _ => .bool true)] = some (.bool true) := by
  have h : (l.map fun _ => true).all id = true := by simp
  simp only [allD, all_true, Option.map_some, h]
theorem rising_ok (ds : List D) (hc : ∀ a ∈ ds, ∀ b ∈ ds, cmpOk a b = true) (hp : ds.Pairwise fun a b => dataLt a b = true) : m_is_rising [.tuple ds] = .ok (.bool true) [none] := by
  have hl : lcGo (.tp [.nm 1, .nm 2]) bYes (eOp2 ltD (oVal (eVar 1)) (oVal (eVar 2))) [1, 2] (zipD ds ds.tail) [some (.tuple ds), none, none] = .ok ((zipD ds ds.tail).map fun _ => .bool true) [some (.tuple ds), none, none] := by
    refine lcGo_map (fun _ => .bool true) _ fun p hp' => ?_
    obtain ⟨l, a, b, r, e, rfl⟩ := mem_zip1 hp'
    have ha : a ∈ ds := by rw [e]; simp
    have hb : b ∈ ds := by rw [e]; simp
    have hlt : dataLt a b = true := by
      rw [e, List.pairwise_append] at hp
      exact (List.pairwise_cons.mp hp.2.1).1 b (by simp)
    refine ⟨[some (.tuple ds), some a, some b], [some (.tuple ds), some a, some b], by simp [bindT, bindTs], ?_, by simp [wipeD]⟩
    have : ltD a b = some (.bool true) := by unfold ltD; rw [if_pos (hc a ha b hb), hlt]
    simp [this]
  simp [m_is_rising, fnM, outE, body_is_rising, le_is_rising_1, slD, drop1, zipItems, wipeD, hl, derefs, allD, all_true, resD]
theorem cmpOk_shp {n m : Nat} {d e : D} (h1 : shp n d = true) (h2 : shp m e = true) (hn : n ≤ 64) (hm : m ≤ 64) (ha : alike d e = true) (h0 : noneD d = false) : cmpOk d e = true := by
  unfold cmpOk
  rw [shaped_of h1 hn, shaped_of h2 hm, ha, h0]; rfl

/-! ### sorted, no two alike: rising -/
theorem dle_trans (a b c : D) : dleD a b = true → dleD b c = true → dleD a c = true := by
  unfold dleD PySem.W.dataLt
  simp only [Bool.not_eq_true']
  intro h1 h2
  cases h : PyProof.Rows.lexLt itemOrd (keyToks c) (keyToks a) with
  | false => rfl
  | true =>
    exfalso
    cases h3 : PyProof.Rows.lexLt itemOrd (keyToks a) (keyToks b) with
    | true => rw [PyProof.Rows.lex_trans _ _ _ h h3] at h2; cases h2
    | false =>
      have := PyProof.Rows.lex_total _ _ h3 h1
      rw [this] at h
      rw [h] at h2; cases h2
theorem dle_total (a b : D) : (dleD a b || dleD b a) = true := by
  unfold dleD PySem.W.dataLt
  cases h : PyProof.Rows.lexLt itemOrd (keyToks b) (keyToks a) with
  | false => rfl
  | true =>
    cases h2 : PyProof.Rows.lexLt itemOrd (keyToks a) (keyToks b) with
    | false => rfl
    | true =>
      have := PyProof.Rows.lex_trans _ _ _ h h2
      rw [PyProof.Rows.lex_irrefl] at this
      cases this
theorem sorted_rising {ds : List D} (h : ds.Pairwise fun a b => keyToks a ≠ keyToks b) : (ds.mergeSort dleD).Pairwise fun a b => dataLt a b = true := by
  have h1 : (ds.mergeSort dleD).Pairwise fun a b => dleD a b = true := List.pairwise_mergeSort (fun a b c => dle_trans a b c) (fun a b => dle_total a b) ds
  have h2 : (ds.mergeSort dleD).Pairwise fun a b => keyToks a ≠ keyToks b := ((List.mergeSort_perm ds dleD).pairwise_iff (fun h => h.symm)).mpr h
  refine (h1.and h2).imp fun {a b} ⟨q1, q2⟩ => ?_
  unfold dleD PySem.W.dataLt at q1
  simp only [Bool.not_eq_true'] at q1
  cases q : dataLt a b with
  | true => rfl
  | false => exact absurd (PyProof.Rows.lex_total _ _ q q1) q2
theorem toks_ne {a b : D} (ha : alike a b = true) (h : PyData.eqv a b = false) : keyToks a ≠ keyToks b := fun e => by
  have := (PySem.W.toks_eqv a b ha).2 h [] [.inl 0]
  rw [e, PyProof.Rows.lex_irrefl, PySem.W.lex_pre] at this
  cases this
end U

set_option maxRecDepth 100000
set_option linter.all false
set_option maxHeartbeats 4000000
namespace U
open PySem PySem.Spec PyProof.Rows L2 RZ PD
open PySem.W (dataLt alike alikeAll keyToks keyToksAll)
abbrev door (p : Int × Int) : D := .tuple [.int p.1, .int p.2]
abbrev hous (n : Int) (ps : List (Int × Int)) : D := .tuple [.int n, .tuple (ps.map door)]
structure HsOk (n : Int) (ps : List (Int × Int)) : Prop where
  lo : 2 ≤ n
  hi : n ≤ 10
  dr : ∀ p ∈ ps, 0 ≤ p.1 ∧ p.1 < p.2 ∧ p.2 ≤ n - 1
  ln : ps.length ≤ 20
  ri : (ps.map door).Pairwise fun a b => dataLt a b = true
theorem door_shp (p : Int × Int) : shp 1 (door p) = true := by simp [shp, shpAll]
theorem door_alike (p q : Int × Int) : alike (door p) (door q) = true := by simp [alike, alikeAll]
theorem doors_cmp (ps : List (Int × Int)) : ∀ a ∈ ps.map door, ∀ b ∈ ps.map door, cmpOk a b = true := by
  intro a ha b hb
  obtain ⟨p, _, rfl⟩ := List.mem_map.mp ha
  obtain ⟨q, _, rfl⟩ := List.mem_map.mp hb
  exact cmpOk_shp (door_shp p) (door_shp q) (by decide) (by decide) (door_alike p q) rfl
theorem whole_c (ρ : PD.Env) (i lo hi : Int) : callM 3 none m_is_whole [.val (.int i), .val (.int lo), .val (.int hi)] ρ = .ok (.bool (decide (lo ≤ i) && decide (i ≤ hi))) ρ := call3 (is_whole_ok (.int i) lo hi fun es e => nomatch e)
theorem atI0 {a : D} {l : List D} : L2.atI (a :: l) 0 = some a := by simp [L2.atI, ixN]
theorem atI1 {a b : D} {l : List D} : L2.atI (a :: b :: l) 1 = some b := by
  have h : (1 : Int) < ((a :: b :: l).length : Int) := by simp only [List.length_cons]; omega
  unfold L2.atI ixN
  rw [if_pos (by decide), if_pos h]
  rfl
theorem is_door_ok (n : Int) (p : Int × Int) (h : 0 ≤ p.1 ∧ p.1 < p.2 ∧ p.2 ≤ n - 1) : m_is_door [.int n, door p] = .ok (.bool true) [none, none] := by
  obtain ⟨h1, h2, h3⟩ := h
  have h4 : p.1 ≤ n - 1 := by omega
  have h5 : 0 ≤ p.2 := by omega
  simp [m_is_door, fnM, outE, body_is_door, le_is_door_1, isiD, isi, boolD, lenD, derefs, neD_int, itemsD, wipeD, lcGo, bindT, bYes, whole_c, resD, allD, boolsD, ixD, atI0, atI1, ltD_int, h1, h2, h3, h4, h5]
theorem is_house_ok {n : Int} {ps : List (Int × Int)} (h : HsOk n ps) : m_is_house [hous n ps] = .ok (.bool true) [none] := by
  have g1 : decide (2 ≤ n) = true := decide_eq_true h.lo
  have g2 : decide (n ≤ 10) = true := decide_eq_true h.hi
  have hl : ¬ (20 : Int) < (ps.length : Int) := by have := h.ln; omega
  have r := rising_ok (ps.map door) (doors_cmp ps) h.ri
  have cr := fun ρ => call1 (ρ := ρ) r
  have lc : lcGo (.nm 1) bYes (eCall 2 none m_is_door (aCons (oVal (eOp2 ixD (oVal (eVar 0)) (oVal (eC (.int 0))))) (aCons (oVal (eVar 1)) aNil))) [1] (ps.map door) [some (hous n ps), none] = .ok ((ps.map door).map fun _ => .bool true) [some (hous n ps), none] := by
    refine lcGo_map (fun _ => .bool true) _ fun d hd => ?_
    obtain ⟨p, hp, rfl⟩ := List.mem_map.mp hd
    refine ⟨[some (hous n ps), some (door p)], [some (hous n ps), some (door p)], by simp [bindT], ?_, by simp [wipeD]⟩
    have c := fun ρ => call2 (ρ := ρ) (is_door_ok n p (h.dr p hp))
    simp [ixD, atI0, c]
  have at0 := allD_true (ps.map door)
  simp [m_is_house, fnM, outE, body_is_house, le_is_house_1, isiD, isi, boolD, lenD, derefs, neD_int, gtD_int, ixD, atI0, atI1, whole_c, itemsD, wipeD, g1, g2, hl, lc, resD, at0, cr, -List.map_map]
end U

set_option maxRecDepth 100000
set_option linter.all false
set_option maxHeartbeats 4000000
namespace U
open PySem PySem.Spec PyProof.Rows L2 RZ PD
open PySem.W (dataLt alike alikeAll keyToks keyToksAll)
theorem boolsD_mapf (f : D → Bool) (l : List D) : boolsD (l.map fun d => .bool (f d)) = some (l.map f) := by
  induction l with
  | nil => rfl
  | cons a l ih => simp [boolsD, ih]
theorem allD_map (f : D → Bool) (l : List D) : allD [.list (l.map fun d => .bool (f d))] = some (.bool (l.all f)) := by
  have h : (l.map f).all id = l.all f := by simp [List.all_map]
  simp only [allD, boolsD_mapf, Option.map_some, h]
theorem need_house_ok {n : Int} {ps : List (Int × Int)} (h : HsOk n ps) : m_need_house [hous n ps] = .ok .none [none] := by
  have c := fun ρ => call1 (ρ := ρ) (is_house_ok h)
  simp [m_need_house, fnM, outE, body_need_house, c, boolD]
theorem need_house_no {d : D} (h : m_is_house [d] = .ok (.bool false) [none]) : m_need_house [d] = .exc 0 [none] := by
  have c := fun ρ => call1 (ρ := ρ) h
  simp [m_need_house, fnM, outE, body_need_house, c, boolD]
abbrev dspot (p : Int × Int) : D := .tuple [.str "door", .int p.1, .int p.2]
abbrev rspot (r : D) : D := .tuple [.str "room", r]
def spots (n : Int) (ps : List (Int × Int)) : List D := ps.map dspot ++ (rgD 1 n).map rspot
theorem rg_ok {n : Int} (h1 : 2 ≤ n) (h2 : n ≤ 10) : rgItems (.int 1) (.int n) = some (rgD 1 n) := by
  have : rgOk 1 n = true := by
    unfold rgOk
    simp only [Bool.and_eq_true, decide_eq_true_eq]
    refine ⟨⟨⟨⟨by decide, by decide⟩, by omega⟩, by omega⟩, ?_⟩
    show (n - 1).toNat ≤ 1000000
    omega
  simp [rgItems, this]
theorem all_spots_ok {n : Int} {ps : List (Int × Int)} (h : HsOk n ps) : m_all_spots [hous n ps] = .ok (.list (spots n ps)) [none] := by
  have l1 : lcGo (.nm 1) bYes (eOp2 addD (oVal (eTup (aCons (oVal (eC (.str "door"))) aNil))) (oVal (eVar 1))) [1] (ps.map door) [some (hous n ps), none, none] = .ok (ps.map dspot) [some (hous n ps), none, none] := by
    have := lcGo_map (T := .nm 1) (elt := eOp2 addD (oVal (eTup (aCons (oVal (eC (.str "door"))) aNil))) (oVal (eVar 1))) (own := [1]) (ρ := [some (hous n ps), none, none]) (fun d => match d with | .tuple [.int a, .int b] => dspot (a, b) | _ => .none) (ps.map door) fun d hd => by
      obtain ⟨p, hp, rfl⟩ := List.mem_map.mp hd
      exact ⟨[some (hous n ps), some (door p), none], [some (hous n ps), some (door p), none], by simp [bindT], by simp [valsOf, lim, addD], by simp [wipeD]⟩
    rw [this, List.map_map]
    rfl
  have l2 : lcGo (.nm 2) bYes (eTup (aCons (oVal (eC (.str "room"))) (aCons (oVal (eVar 2)) aNil))) [2] (rgD 1 n) [some (hous n ps), none, none] = .ok ((rgD 1 n).map rspot) [some (hous n ps), none, none] :=
    lcGo_map rspot (rgD 1 n) fun d hd => ⟨[some (hous n ps), none, some d], [some (hous n ps), none, some d], by simp [bindT], by simp [valsOf, lim], by simp [wipeD]⟩
  have hlen : (ps.map dspot).length + ((rgD 1 n).map rspot).length ≤ lim := by
    have := h.ln
    have := h.hi
    rw [List.length_map, List.length_map, rgD_len]
    show _ ≤ 1000000
    omega
  have ha : addD (.list (ps.map dspot)) (.list ((rgD 1 n).map rspot)) = some (.list (spots n ps)) := by
    exact if_pos hlen
  simp [m_all_spots, fnM, outE, body_all_spots, le_all_spots_1, le_all_spots_2, ixD, atI0, atI1, itemsD, wipeD, l1, resD, rg_ok h.lo h.hi, l2, ha]
theorem so1 : PyData.strOk "door" = true := by decide +kernel
theorem so2 : PyData.strOk "room" = true := by decide +kernel
theorem spots_shp (n : Int) (ps : List (Int × Int)) : shp 2 (.list (spots n ps)) = true := by
  simp only [shp, shpAll_iff]
  intro d hd
  rcases List.mem_append.mp hd with hd | hd
  · obtain ⟨p, _, rfl⟩ := List.mem_map.mp hd
    simp [shp, shpAll, so1, so2]
  · obtain ⟨r, hr, rfl⟩ := List.mem_map.mp hd
    unfold rgD at hr
    obtain ⟨i, _, rfl⟩ := List.mem_map.mp hr
    simp [shp, shpAll, so1, so2]
theorem inD_shp {k m : Nat} {d : D} {es : List D} (h1 : shp k d = true) (h2 : shp m (.list es) = true) (hk : k ≤ 64 := by decide) (hm : m ≤ 64 := by decide) : inD d (.list es) = some (.bool (es.any fun z => PyData.eqv z d)) := by
  simp [inD, shaped_of h1 hk, shaped_of h2 hm]
theorem is_spot_ok {n : Int} {ps : List (Int × Int)} (h : HsOk n ps) (s : Str) (nums : List D) (hs : shp 2 (.tuple (.str s :: nums)) = true) (nd : ∀ d ∈ nums, ∀ es, d ≠ .dict es) :
    m_is_spot [hous n ps, .tuple (.str s :: nums)] = .ok (.bool ((nums.all fun x => wh x 0 n) && (spots n ps).any fun z => PyData.eqv z (.tuple (.str s :: nums)))) [none, none] := by
  have e1 := eqD_shp (e := .tuple []) (m := 1) hs rfl
  have e2 : PyData.eqv (.tuple (.str s :: nums)) (.tuple []) = false := by simp [PyData.eqv, PyData.eqvAll]
  rw [e2] at e1
  have l1 : lcGo (.nm 2) bYes (eCall 3 none m_is_whole (aCons (oVal (eVar 2)) (aCons (oVal (eC (.int 0))) (aCons (oVal (eOp2 ixD (oVal (eVar 0)) (oVal (eC (.int 0))))) aNil)))) [2] nums [some (hous n ps), some (.tuple (.str s :: nums)), none] =
      .ok (nums.map fun d => .bool (wh d 0 n)) [some (hous n ps), some (.tuple (.str s :: nums)), none] := by
    refine lcGo_map _ nums fun d hd => ?_
    have c := fun ρ => call3 (ρ := ρ) (is_whole_ok d 0 n (nd d hd))
    exact ⟨[some (hous n ps), some (.tuple (.str s :: nums)), some d], [some (hous n ps), some (.tuple (.str s :: nums)), some d], by simp [bindT], by simp [ixD, atI0, c], by simp [wipeD]⟩
  have ad := allD_map (fun x => wh x 0 n) nums
  have sp := fun ρ => call1 (ρ := ρ) (all_spots_ok h)
  have ins := inD_shp hs (spots_shp n ps)
  have dr := drop1 (.str s :: nums)
  simp only [List.tail_cons] at dr
  cases q : nums.all fun x => wh x 0 n with
  | false =>
    rw [q] at ad
    simp [m_is_spot, fnM, outE, body_is_spot, le_is_spot_1, isiD, isi, boolD, e1, valsOf, lim, ixD, atI0, slD, dr, itemsD, wipeD, l1, resD, derefs, ad]
  | true =>
    rw [q] at ad
    simp [m_is_spot, fnM, outE, body_is_spot, le_is_spot_1, isiD, isi, boolD, e1, valsOf, lim, ixD, atI0, slD, dr, itemsD, wipeD, l1, resD, derefs, ad, sp, ins]
end U

set_option maxRecDepth 100000
set_option linter.all false
set_option maxHeartbeats 4000000
namespace U
open PySem PySem.Spec PyProof.Rows L2 RZ PD
open PySem.W (dataLt alike alikeAll keyToks keyToksAll)
theorem sne1 : (("door" : Str) == "room") = false := by decide +kernel
theorem sne2 : (("room" : Str) == "door") = false := by decide +kernel
theorem sne3 : (("door" : Str) == "hall") = false := by decide +kernel
theorem sne4 : (("room" : Str) == "hall") = false := by decide +kernel
theorem any_room (n : Int) (ps : List (Int × Int)) (k : Int) : ((spots n ps).any fun z => PyData.eqv z (.tuple [.str "room", .int k])) = decide (1 ≤ k ∧ k < n) := by
  unfold spots
  rw [List.any_append, List.any_map, List.any_map]
  have h1 : (ps.any ((fun z => PyData.eqv z (.tuple [.str "room", .int k])) ∘ dspot)) = false := by
    rw [List.any_eq_false]
    intro p _
    simp [PyData.eqv, PyData.eqvAll, sne1]
  rw [h1, Bool.false_or]
  by_cases h : 1 ≤ k ∧ k < n
  · rw [decide_eq_true h, List.any_eq_true]
    refine ⟨.int k, ?_, by simp [PyData.eqv, PyData.eqvAll]⟩
    unfold rgD
    exact List.mem_map.mpr ⟨(k - 1).toNat, List.mem_range.mpr (by omega), by congr 1; omega⟩
  · rw [decide_eq_false h, List.any_eq_false]
    intro r hr
    unfold rgD at hr
    obtain ⟨i, hi, rfl⟩ := List.mem_map.mp hr
    have hi := List.mem_range.mp hi
    have : ¬ (1 + (i : Int) = k) := by omega
    simp [PyData.eqv, PyData.eqvAll, this]
theorem any_door10 {n : Int} {ps : List (Int × Int)} (h : HsOk n ps) : ((spots n ps).any fun z => PyData.eqv z (.tuple [.str "door", .int 1, .int 0])) = false := by
  unfold spots
  rw [List.any_append, List.any_map, List.any_map, Bool.or_eq_false_iff]
  constructor
  · rw [List.any_eq_false]
    intro p hp
    have := h.dr p hp
    have : ¬ (p.1 = 1 ∧ p.2 = 0) := by omega
    simp [PyData.eqv, PyData.eqvAll]
    omega
  · rw [List.any_eq_false]
    intro r _
    simp [PyData.eqv, PyData.eqvAll, sne2]
theorem any_hall (n : Int) (ps : List (Int × Int)) : ((spots n ps).any fun z => PyData.eqv z (.tuple [.str "hall", .int 1])) = false := by
  unfold spots
  rw [List.any_append, List.any_map, List.any_map, Bool.or_eq_false_iff]
  constructor
  · rw [List.any_eq_false]
    intro p hp
    simp [PyData.eqv, PyData.eqvAll, sne3]
  · rw [List.any_eq_false]
    intro r _
    simp [PyData.eqv, PyData.eqvAll, sne4]
def beats10 : List Str := ["#", "#.", ".#", "##.", "..#", "#..#", ".#.#", "...", "#.#.#.", ".##..#"]
theorem sin1 : inD (chD 35) (.str "#.") = some (.bool true) := by
  show some (PyData.bool (strIn _ _)) = _
  rw [show strIn (⟨#[35]⟩ : Str) "#." = true from by decide +kernel]
theorem sin2 : inD (chD 46) (.str "#.") = some (.bool true) := by
  show some (PyData.bool (strIn _ _)) = _
  rw [show strIn (⟨#[46]⟩ : Str) "#." = true from by decide +kernel]
theorem sin3 : inD (chD 120) (.str "#.") = some (.bool false) := by
  show some (PyData.bool (strIn _ _)) = _
  rw [show strIn (⟨#[120]⟩ : Str) "#." = false from by decide +kernel]
theorem sign_ok (t : Str) (ht : t ∈ beats10) (a b : Option D) : lcGo (.nm 2) bYes (eOp2 inD (oVal (eVar 2)) (oVal (eC (.str "#.")))) [2] (t.cps.toList.map chD) [a, b, none] = .ok ((t.cps.toList.map chD).map fun _ => .bool true) [a, b, none] ∧ 1 ≤ t.length ∧ t.length ≤ 6 := by
  have h : (t.cps.toList.all fun c => c == 35 || c == 46) = true ∧ 1 ≤ t.length ∧ t.length ≤ 6 := by
    unfold beats10 at ht
    simp only [List.mem_cons, List.not_mem_nil, or_false] at ht
    rcases ht with rfl | rfl | rfl | rfl | rfl | rfl | rfl | rfl | rfl | rfl <;> exact ⟨by decide +kernel, by decide, by decide⟩
  refine ⟨lcGo_map (fun _ => .bool true) _ fun d hd => ?_, h.2⟩
  obtain ⟨c, hc, rfl⟩ := List.mem_map.mp hd
  have hc := List.all_eq_true.mp h.1 c hc
  refine ⟨[a, b, some (chD c)], [a, b, some (chD c)], by simp [bindT], ?_, by simp [wipeD]⟩
  have : inD (chD c) (.str "#.") = some (.bool true) := by
    simp only [Bool.or_eq_true, beq_iff_eq] at hc
    rcases hc with rfl | rfl
    · exact sin1
    · exact sin2
  simp [this]
theorem watcher_c {n : Int} {ps : List (Int × Int)} {z : D} {t : Str} (hs : m_is_spot [hous n ps, z] = .ok (.bool true) [none, none]) (ht : t ∈ beats10) : m_is_watcher [hous n ps, .tuple [z, .str t]] = .ok (.bool true) [none, none] := by
  obtain ⟨l1, h1, h2⟩ := sign_ok t ht (some (hous n ps)) (some (.tuple [z, .str t]))
  have c := fun ρ => call2 (ρ := ρ) hs
  have at0 := allD_true (t.cps.toList.map chD)
  have g1 : (1 : Int) ≤ (t.length : Int) := by omega
  have g2 : (t.length : Int) ≤ 6 := by omega
  simp [m_is_watcher, fnM, outE, body_is_watcher, le_is_watcher_1, isiD, isi, boolD, lenD, derefs, neD_int, ixD, atI0, atI1, c, leD_int, g1, g2, itemsD, wipeD, l1, resD, at0, -List.map_map]
theorem watcher_s {n : Int} {ps : List (Int × Int)} {z t : D} (hs : m_is_spot [hous n ps, z] = .ok (.bool false) [none, none]) : m_is_watcher [hous n ps, .tuple [z, t]] = .ok (.bool false) [none, none] := by
  have c := fun ρ => call2 (ρ := ρ) hs
  simp [m_is_watcher, fnM, outE, body_is_watcher, le_is_watcher_1, isiD, isi, boolD, lenD, derefs, neD_int, ixD, atI0, atI1, c]
theorem watching_1 {h x : D} (hx : m_is_watcher [h, x] = .ok (.bool false) [none, none]) : m_are_watching [h, .tuple [x]] = .ok (.bool false) [none, none] := by
  have c := fun ρ => call2 (ρ := ρ) hx
  simp [m_are_watching, fnM, outE, body_are_watching, le_are_watching_1, isiD, isi, boolD, lenD, derefs, gtD_int, itemsD, wipeD, lcGo, bindT, bYes, c, resD, allD, boolsD]
theorem watching_2 {h x y : D} {b : Bool} (hx : m_is_watcher [h, x] = .ok (.bool false) [none, none]) (hy : m_is_watcher [h, y] = .ok (.bool b) [none, none]) : m_are_watching [h, .tuple [x, y]] = .ok (.bool false) [none, none] := by
  have c := fun ρ => call2 (ρ := ρ) hx
  have c2 := fun ρ => call2 (ρ := ρ) hy
  simp [m_are_watching, fnM, outE, body_are_watching, le_are_watching_1, isiD, isi, boolD, lenD, derefs, gtD_int, itemsD, wipeD, lcGo, bindT, bYes, c, c2, resD, allD, boolsD]
theorem room1_ok {n : Int} {ps : List (Int × Int)} (h : HsOk n ps) : m_is_spot [hous n ps, rspot (.int 1)] = .ok (.bool true) [none, none] := by
  have := is_spot_ok h "room" [.int 1] (by simp [shp, shpAll, so2]) (by simp)
  rw [any_room] at this
  have h1 := h.lo
  have e : (([.int 1] : List D).all fun x => wh x 0 n) = true := by simp [wh]; omega
  have e2 : decide ((1 : Int) ≤ 1 ∧ (1 : Int) < n) = true := decide_eq_true ⟨by omega, by omega⟩
  rw [e, e2] at this
  exact this
theorem spot_no {n : Int} {ps : List (Int × Int)} (h : HsOk n ps) (s : Str) (nums : List D) (hs : shp 2 (.tuple (.str s :: nums)) = true) (nd : ∀ d ∈ nums, ∀ es, d ≠ .dict es)
    (e : ((nums.all fun x => wh x 0 n) && (spots n ps).any fun z => PyData.eqv z (.tuple (.str s :: nums))) = false) : m_is_spot [hous n ps, .tuple (.str s :: nums)] = .ok (.bool false) [none, none] := by
  have := is_spot_ok h s nums hs nd
  rw [e] at this
  exact this
end U

set_option maxRecDepth 100000
set_option linter.all false
set_option maxHeartbeats 4000000
namespace U
open PySem PySem.Spec PyProof.Rows L2 RZ PD
open PySem.W (dataLt alike alikeAll keyToks keyToksAll)
def oddH : List D := [.none, .int 5, .tuple [], .tuple [.int 1, .tuple []], .tuple [.int 11, .tuple []], .tuple [.bool true, .tuple []], .tuple [.int 3, .list [door (0, 1)]], .list [.int 3, .tuple []], .tuple [.int 3, .tuple [door (1, 0)]],
  .tuple [.int 3, .tuple [door (0, 1), door (0, 1)]], .tuple [.int 3, .tuple [door (1, 2), door (0, 1)]], .tuple [.int 3, .tuple [.tuple [.int 0, .bool true]]], .str "rooms 3", .tuple [.int 3], .tuple [.int 3, .tuple [door (0, 3)]], .tuple [.int 3, .tuple [door (0, 0)]]]
theorem oddH_no (d : D) (h : d ∈ oddH) : m_is_house [d] = .ok (.bool false) [none] := by
  unfold oddH at h
  simp only [List.mem_cons, List.not_mem_nil, or_false] at h
  rcases h with rfl | rfl | rfl | rfl | rfl | rfl | rfl | rfl | rfl | rfl | rfl | rfl | rfl | rfl | rfl | rfl <;> rfl
theorem odd_house_ok (ns : List Int) (tw : List D) (hl : tw.length < lim) : ∃ d ∈ oddH, m__law_odd_house [scr ns, .list tw] = .ok d [none, some (.list (tw ++ [.int 0]))] := by
  obtain ⟨d, hd, hr⟩ := pick_ok ns tw oddH (by unfold oddH; simp) hl
  refine ⟨d, hd, ?_⟩
  unfold oddH at hr
  simp [m__law_odd_house, fnM, outE, body__law_odd_house, valsOf, lim, addD, callM, argIn, putOut, hr]
abbrev wat (z t : D) : D := .tuple [z, t]
def oddW : List D := [.none, .int 5, .list [], .tuple [wat (rspot (.int 0)) (.str "#")], .tuple [wat (rspot (.int 1)) (.str "")], .tuple [wat (rspot (.int 1)) (.str "#######")], .tuple [wat (rspot (.int 99)) (.str "#")], .tuple [wat (dspot (1, 0)) (.str "#")],
  .tuple [wat (rspot (.int 1)) (.str "#"), wat (rspot (.int 1)) (.str "#")], .tuple [wat (.tuple [.str "hall", .int 1]) (.str "#")], .tuple [wat (rspot (.int 1)) .none], .tuple [wat (rspot (.bool true)) (.str "#")], .tuple [rspot (.int 1), .str "#"], .tuple [wat (rspot (.int 1)) (.str "x")]]
theorem odd_watchers_ok (ns : List Int) (tw : List D) (hl : tw.length < lim) : ∃ d ∈ oddW, m__law_odd_watchers [scr ns, .list tw] = .ok d [none, some (.list (tw ++ [.int 0]))] := by
  obtain ⟨d, hd, hr⟩ := pick_ok ns tw oddW (by unfold oddW; simp) hl
  refine ⟨d, hd, ?_⟩
  unfold oddW at hr
  simp [m__law_odd_watchers, fnM, outE, body__law_odd_watchers, valsOf, lim, addD, mulD, callM, argIn, putOut, hr]
theorem so3 : PyData.strOk "hall" = true := by decide +kernel
theorem so4 : PyData.strOk "#" = true := by decide +kernel
theorem eqR (a b : D) : PyData.eqv (.tuple [a, b]) (.tuple [a, b]) = (PyData.eqv a a && PyData.eqv b b) := by simp [PyData.eqv, PyData.eqvAll]
theorem oddW_no {n : Int} {ps : List (Int × Int)} (h : HsOk n ps) (d : D) (hd : d ∈ oddW) : m_are_watching [hous n ps, d] = .ok (.bool false) [none, none] := by
  have r1 := room1_ok h
  have c1 := fun ρ => call2 (ρ := ρ) r1
  have h1 := h.lo
  have h2 := h.hi
  unfold oddW at hd
  simp only [List.mem_cons, List.not_mem_nil, or_false] at hd
  rcases hd with rfl | rfl | rfl | rfl | rfl | rfl | rfl | rfl | rfl | rfl | rfl | rfl | rfl | rfl
  · rfl
  · rfl
  · rfl
  · refine watching_1 (watcher_s (spot_no h "room" [.int 0] (by simp [shp, shpAll, so2]) (by simp) ?_))
    rw [any_room]
    simp
  · refine watching_1 ?_
    simp [m_is_watcher, fnM, outE, body_is_watcher, le_is_watcher_1, isiD, isi, boolD, lenD, derefs, neD_int, ixD, atI0, atI1, c1, leD_int, show (("" : Str).length) = 0 from rfl]
  · refine watching_1 ?_
    simp [m_is_watcher, fnM, outE, body_is_watcher, le_is_watcher_1, isiD, isi, boolD, lenD, derefs, neD_int, ixD, atI0, atI1, c1, leD_int, show (("#######" : Str).length) = 7 from rfl]
  · refine watching_1 (watcher_s (spot_no h "room" [.int 99] (by simp [shp, shpAll, so2]) (by simp) ?_))
    have : ([.int 99] : List D).all (fun x => wh x 0 n) = false := by simp [wh]; omega
    rw [this]; rfl
  · refine watching_1 (watcher_s (spot_no h "door" [.int 1, .int 0] (by simp [shp, shpAll, so1]) (by simp) ?_))
    rw [any_door10 h, Bool.and_false]
  · have w := watcher_c r1 (t := "#") (by unfold beats10; simp)
    have c := fun ρ => call2 (ρ := ρ) w
    have lt : ltD (wat (rspot (.int 1)) (.str "#")) (wat (rspot (.int 1)) (.str "#")) = some (.bool false) := by
      have ck : cmpOk (wat (rspot (.int 1)) (.str "#")) (wat (rspot (.int 1)) (.str "#")) = true := cmpOk_shp (n := 2) (m := 2) (by simp [shp, shpAll, so2, so4]) (by simp [shp, shpAll, so2, so4]) (by decide) (by decide) (by simp [alike, alikeAll]) rfl
      unfold ltD
      rw [if_pos ck, show dataLt (wat (rspot (.int 1)) (.str "#")) (wat (rspot (.int 1)) (.str "#")) = false from PyProof.Rows.lex_irrefl _]
    have ri : m_is_rising [.tuple [wat (rspot (.int 1)) (.str "#"), wat (rspot (.int 1)) (.str "#")]] = .ok (.bool false) [none] := by
      simp [m_is_rising, fnM, outE, body_is_rising, le_is_rising_1, slD, drop1, zipItems, zipD, wipeD, lcGo, bindT, bindTs, bYes, lt, derefs, allD, boolsD, resD]
    have cr := fun ρ => call1 (ρ := ρ) ri
    simp [m_are_watching, fnM, outE, body_are_watching, le_are_watching_1, isiD, isi, boolD, lenD, derefs, gtD_int, itemsD, wipeD, lcGo, bindT, bYes, c, resD, allD, boolsD, cr]
  · refine watching_1 (watcher_s (spot_no h "hall" [.int 1] (by simp [shp, shpAll, so3]) (by simp) ?_))
    rw [any_hall, Bool.and_false]
  · refine watching_1 ?_
    simp [m_is_watcher, fnM, outE, body_is_watcher, le_is_watcher_1, isiD, isi, boolD, lenD, derefs, neD_int, ixD, atI0, atI1, c1, leD_int]
  · refine watching_1 (watcher_s (spot_no h "room" [.bool true] (by simp [shp, shpAll, so2]) (by simp) ?_))
    simp [wh]
  · exact watching_2 (b := false) (watcher_s rfl) rfl
  · refine watching_1 ?_
    have lx : ("x" : Str).cps.toList = [120] := by decide +kernel
    simp [m_is_watcher, fnM, outE, body_is_watcher, le_is_watcher_1, isiD, isi, boolD, lenD, derefs, neD_int, ixD, atI0, atI1, c1, leD_int, show (("x" : Str).length) = 1 from rfl, itemsD, wipeD, lcGo, bindT, bYes, lx, sin3, resD, allD, boolsD]
end U

set_option maxRecDepth 100000
set_option linter.all false
set_option maxHeartbeats 4000000
namespace U
open PySem PySem.Spec PyProof.Rows L2 RZ PD
open PySem.W (dataLt alike alikeAll keyToks keyToksAll)
theorem draw_c (ns : List Int) (tw : List D) (n : Int) (hn : 0 < n) (hl : tw.length < lim) : ∃ r, 0 ≤ r ∧ r < n ∧ ∀ (a : Option D) (ρ : PD.Env), callM 3 (some (1, 1)) m__law_draw [.val (scr ns), .lnd 1, .val (.int n)] (a :: some (.list tw) :: ρ) = .ok (.int r) (a :: some (.list (tw ++ [.int 0])) :: ρ) := by
  obtain ⟨r, hr, h1, h2⟩ := draw_ok ns tw n hn hl
  exact ⟨r, h1, h2, fun a ρ => by simp [callM, argIn, hr, putOut]⟩
abbrev bodyIn : PD.Env → SR := (sIf (bOr (bOf (eOp2 ltD (oVal (eCall 3 (some (1, 1)) m__law_draw (aCons (oVal (eVar 0)) (aCons (oLend 1) (aCons (oVal (eC (.int 6))) aNil))))) (oVal (eVar 3)))) (bAnd (bOf (eOp2 eqD (oVal (eVar 7)) (oVal (eOp2 subD (oVal (eVar 6)) (oVal (eC (.int 1))))))) (bOf (eOp2 gtD (oVal (eCall 3 (some (1, 1)) m__law_draw (aCons (oVal (eVar 0)) (aCons (oLend 1) (aCons (oVal (eC (.int 5))) aNil))))) (oVal (eC (.int 0))))))) (sDrop (eMut 5 appD (aCons (oVal (eTup (aCons (oVal (eVar 7)) (aCons (oVal (eVar 6)) aNil)))) aNil))) sNil)
abbrev envH (ns : List Int) (tw : List D) (m sh n : Int) (ps : List (Int × Int)) (x y : Option D) : PD.Env := [some (scr ns), some (.list tw), some (.int m), some (.int sh), some (.int n), some (.list (ps.map door)), x, y]
theorem inner_ok (ns : List Int) (tw : List D) (m sh n other one : Int) (ps : List (Int × Int)) (hl : tw.length + 2 < lim) (hp : ps.length < lim) :
    ∃ tw' ps', bodyIn (envH ns tw m sh n ps (some (.int other)) (some (.int one))) = .nx (envH ns tw' m sh n ps' (some (.int other)) (some (.int one))) ∧ tw'.length ≤ tw.length + 2 ∧ (ps' = ps ∨ ps' = ps ++ [(one, other)]) := by
  obtain ⟨r1, _, _, c1⟩ := draw_c ns tw 6 (by decide) (by omega)
  have hp' : ps.length + 1 ≤ lim := hp
  by_cases g1 : r1 < sh
  · refine ⟨tw ++ [.int 0], ps ++ [(one, other)], ?_, by simp, .inr rfl⟩
    simp [c1, ltD_int, boolD, g1, eMut, valsOf, lim, appD, List.map_append]
    simp [lim] at hp hp'
    simp [hp, hp']
  · by_cases g2 : one = other - 1
    · obtain ⟨r2, _, _, c2⟩ := draw_c ns (tw ++ [.int 0]) 5 (by decide) (by simp; omega)
      by_cases g3 : 0 < r2
      · refine ⟨tw ++ [.int 0] ++ [.int 0], ps ++ [(one, other)], ?_, by simp, .inr rfl⟩
        simp [c1, ltD_int, boolD, g1, eqD_int, g2, c2, gtD_int, g3, eMut, valsOf, lim, appD, List.map_append]
        simp [lim] at hp hp'
        simp [hp, hp']
      · refine ⟨tw ++ [.int 0] ++ [.int 0], ps, ?_, by simp, .inl rfl⟩
        simp [c1, ltD_int, boolD, g1, eqD_int, g2, c2, gtD_int, g3]
    · refine ⟨tw ++ [.int 0], ps, ?_, by simp, .inl rfl⟩
      have g2' : (one == other - 1) = false := by simpa using g2
      simp [c1, ltD_int, boolD, g1, eqD_int, g2']
end U

set_option maxRecDepth 100000
set_option linter.all false
set_option maxHeartbeats 4000000
namespace U
open PySem PySem.Spec PyProof.Rows L2 RZ PD
open PySem.W (dataLt alike alikeAll keyToks keyToksAll)
theorem rgD_at {a b : Int} {i : Nat} {d : D} (h : (rgD a b)[i]? = some d) : d = .int (a + i) ∧ i < (b - a).toNat := by
  obtain ⟨hi, e⟩ := List.getElem?_eq_some_iff.mp h
  rw [rgD_len] at hi
  refine ⟨?_, hi⟩
  rw [← e]
  simp [rgD]
theorem rgI_ok {a b : Int} (h1 : -1000 ≤ a ∧ a ≤ 1000) (h2 : -1000 ≤ b ∧ b ≤ 1000) : rgItems (.int a) (.int b) = some (rgD a b) := by
  have : rgOk a b = true := by
    unfold rgOk
    simp only [Bool.and_eq_true, decide_eq_true_eq]
    refine ⟨⟨⟨⟨by omega, by omega⟩, by omega⟩, by omega⟩, ?_⟩
    show (b - a).toNat ≤ 1000000
    omega
  simp [rgItems, this]
theorem loop_in (ns : List Int) (tw : List D) (m sh n : Int) (o : Nat) (ps : List (Int × Int)) (y : Option D) (ho : 1 ≤ o ∧ o ≤ 20) (hl : tw.length ≤ 5000) (hp : ps.length ≤ 1000) (hd : ∀ p ∈ ps, 0 ≤ p.1 ∧ p.1 < p.2 ∧ p.2 < o) (nd : ps.Nodup) :
    ∃ tw' ps' y', forGo (.nm 7) bodyIn (rgD 0 o) (envH ns tw m sh n ps (some (.int o)) y) = .nx (envH ns tw' m sh n ps' (some (.int o)) y') ∧ tw'.length ≤ tw.length + 2 * o ∧ ps'.length ≤ ps.length + o ∧ (∀ p ∈ ps', 0 ≤ p.1 ∧ p.1 < p.2 ∧ p.2 ≤ o) ∧ ps'.Nodup := by
  have hlen : (rgD 0 o).length = o := by rw [rgD_len]; omega
  obtain ⟨ρ', e, tw', ps', y', rfl, h1, h2, h3, h4⟩ := forGo_inv (T := .nm 7) (body := bodyIn) (fun j ρ => ∃ tw' ps' y', ρ = envH ns tw' m sh n ps' (some (.int o)) y' ∧ tw'.length ≤ tw.length + 2 * j ∧ ps'.length ≤ ps.length + j ∧ (∀ p ∈ ps', 0 ≤ p.1 ∧ p.1 < p.2 ∧ (p.2 < o ∨ (p.2 = o ∧ p.1 < j))) ∧ ps'.Nodup)
    (rgD 0 o) 0 (envH ns tw m sh n ps (some (.int o)) y) ⟨tw, ps, y, rfl, by omega, by omega, fun p h => by have := hd p h; exact ⟨this.1, this.2.1, .inl this.2.2⟩, nd⟩ (by
      rintro i d ρ hi ⟨tw1, ps1, y1, rfl, g1, g2, g3, g4⟩
      obtain ⟨rfl, hlt⟩ := rgD_at hi
      have hio : i < o := by omega
      obtain ⟨tw2, ps2, e2, g5, g6⟩ := inner_ok ns tw1 m sh n o (0 + i) ps1 (by show _ < 1000000; omega) (by show _ < 1000000; omega)
      refine ⟨envH ns tw1 m sh n ps1 (some (.int o)) (some (.int (0 + i))), _, by simp [bindT], .inl e2, tw2, ps2, _, rfl, by omega, ?_, ?_, ?_⟩
      · rcases g6 with rfl | rfl
        · omega
        · simp; omega
      · rcases g6 with rfl | rfl
        · intro p hp
          obtain ⟨a, b, c⟩ := g3 p hp
          refine ⟨a, b, c.imp id fun ⟨c, d⟩ => ⟨c, by omega⟩⟩
        · intro p hp
          rcases List.mem_append.mp hp with hp | hp
          · obtain ⟨a, b, c⟩ := g3 p hp
            exact ⟨a, b, c.imp id fun ⟨c, d⟩ => ⟨c, by omega⟩⟩
          · rw [List.mem_singleton.mp hp]
            exact ⟨by omega, by show (0 : Int) + i < o; omega, .inr ⟨rfl, by omega⟩⟩
      · rcases g6 with rfl | rfl
        · exact g4
        · refine List.nodup_append.mpr ⟨g4, by simp, ?_⟩
          intro p hp q hq he
          rw [List.mem_singleton.mp hq] at he
          obtain ⟨a, b, c⟩ := g3 p hp
          rw [he] at c
          rcases c with c | ⟨_, c⟩
          · exact absurd c (Int.lt_irrefl _)
          · simp at c)
  rw [hlen] at h1 h2 h3
  refine ⟨tw', ps', y', e, by omega, by omega, fun p hp => ?_, h4⟩
  obtain ⟨a, b, c⟩ := h3 p hp
  exact ⟨a, b, by rcases c with c | ⟨c, _⟩ <;> omega⟩
abbrev bodyOut : PD.Env → SR := sFor (.nm 7) (iRg1 (eVar 6)) bodyIn
theorem loop_out (ns : List Int) (tw : List D) (m sh : Int) (n : Nat) (hn : 2 ≤ n ∧ n ≤ 10) (hl : tw.length ≤ 2000) (x y : Option D) :
    ∃ tw' ps x' y', forGo (.nm 6) bodyOut (rgD 1 n) (envH ns tw m sh n [] x y) = .nx (envH ns tw' m sh n ps x' y') ∧ tw'.length ≤ tw.length + 400 ∧ ps.length ≤ 200 ∧ (∀ p ∈ ps, 0 ≤ p.1 ∧ p.1 < p.2 ∧ p.2 ≤ n - 1) ∧ ps.Nodup := by
  have hlen : (rgD 1 n).length = n - 1 := by rw [rgD_len]; omega
  obtain ⟨ρ', e, tw', ps', x', y', rfl, h1, h2, h3, h4⟩ := forGo_inv (T := .nm 6) (body := bodyOut) (fun i ρ => ∃ tw' ps' x' y', ρ = envH ns tw' m sh n ps' x' y' ∧ tw'.length ≤ tw.length + 40 * i ∧ ps'.length ≤ 20 * i ∧ (∀ p ∈ ps', 0 ≤ p.1 ∧ p.1 < p.2 ∧ p.2 < 1 + (i : Int)) ∧ ps'.Nodup)
    (rgD 1 n) 0 (envH ns tw m sh n [] x y) ⟨tw, [], x, y, rfl, by omega, by simp, fun p h => by simp at h, List.nodup_nil⟩ (by
      rintro i d ρ hi ⟨tw1, ps1, x1, y1, rfl, g1, g2, g3, g4⟩
      obtain ⟨rfl, hlt⟩ := rgD_at hi
      have hi9 : i ≤ 8 := by omega
      have eo : (1 : Int) + i = ((1 + i : Nat) : Int) := by omega
      obtain ⟨tw2, ps2, y2, e2, q1, q2, q3, q4⟩ := loop_in ns tw1 m sh n (1 + i) ps1 y1 (by omega) (by omega) (by omega) (fun p hp => by have := g3 p hp; simp at this ⊢; omega) g4
      refine ⟨envH ns tw1 m sh n ps1 (some (.int (1 + i))) y1, _, by simp [bindT], .inl ?_, tw2, ps2, some (.int (1 + i)), y2, rfl, by omega, by omega, fun p hp => ?_, q4⟩
      · rw [eo]
        have rg := rgI_ok (a := 0) (b := ((1 + i : Nat) : Int)) (by omega) (by omega)
        show bS (bnd (.ok (.int ((1 + i : Nat) : Int)) (envH ns tw1 m sh n ps1 (some (.int ((1 + i : Nat) : Int))) y1)) fun d ρ1 => ofO (rgItems (.int 0) d) ρ1) (fun ds ρ1 => forGo (.nm 7) bodyIn ds ρ1) = _
        rw [bnd_ok, rg, ofO_some, bS_ok]
        exact e2
      · have := q3 p hp
        simp at this ⊢
        omega)
  rw [hlen] at h1 h2 h3
  refine ⟨tw', ps', x', y', e, by omega, by omega, fun p hp => ?_, h4⟩
  have := h3 p hp
  omega
end U

set_option maxRecDepth 100000
set_option linter.all false
set_option maxHeartbeats 4000000
namespace U
open PySem PySem.Spec PyProof.Rows L2 RZ PD
open PySem.W (dataLt alike alikeAll keyToks keyToksAll)
theorem sortD_ok {n : Nat} {ds : List D} (hn : n ≤ 64) (h1 : ∀ d ∈ ds, shp n d = true) (h2 : ∀ a ∈ ds, ∀ b ∈ ds, alike a b = true) (h3 : ds.all neTup = true) : sortD [.list ds] = some (.list (ds.mergeSort dleD)) := by
  have : sortOk ds = true := by
    unfold sortOk
    rw [h3, Bool.true_or, Bool.and_true, Bool.and_eq_true]
    refine ⟨List.all_eq_true.mpr fun d hd => shaped_of (h1 d hd) hn, List.all_eq_true.mpr fun a ha => List.all_eq_true.mpr fun b hb => h2 a ha b hb⟩
  simp [sortD, this]
def undoor : D → Int × Int
  | .tuple [.int a, .int b] => (a, b)
  | _ => (0, 0)
theorem doors_toks {ps : List (Int × Int)} (h : ps.Nodup) : (ps.map door).Pairwise fun a b => keyToks a ≠ keyToks b := by
  rw [List.pairwise_map]
  refine List.Pairwise.imp (fun {a b} ne => toks_ne (door_alike a b) ?_) h
  have : ¬ (a.1 = b.1 ∧ a.2 = b.2) := fun ⟨h1, h2⟩ => ne (Prod.ext h1 h2)
  simp [PyData.eqv, PyData.eqvAll]
  exact fun h1 h2 => this ⟨h1, h2⟩
theorem house_eval (ns : List Int) (tw tw' L L20 : List D) (m sh r n : Int) (ps : List (Int × Int)) (x' y' : Option D)
    (c1 : ∀ (a : Option D) (ρ : PD.Env), callM 3 (some (1, 1)) m__law_draw [.val (scr ns), .lnd 1, .val (.int 4)] (a :: some (.list tw) :: ρ) = .ok (.int sh) (a :: some (.list (tw ++ [.int 0])) :: ρ))
    (c2 : ∀ (a : Option D) (ρ : PD.Env), callM 3 (some (1, 1)) m__law_draw [.val (scr ns), .lnd 1, .val (.int (m - 1))] (a :: some (.list (tw ++ [.int 0])) :: ρ) = .ok (.int r) (a :: some (.list (tw ++ [.int 0, .int 0])) :: ρ))
    (hn : 2 + r = n) (rg : rgItems (.int 1) (.int n) = some (rgD 1 n)) (so : sortD [.list (ps.map door)] = some (.list L)) (ct : PD.cutD L none (some 20) = L20)
    (e2 : forGo (.nm 6) bodyOut (rgD 1 n) [some (scr ns), some (.list (tw ++ [.int 0, .int 0])), some (.int m), some (.int sh), some (.int n), some (.list []), none, none] = .nx (envH ns tw' m sh n ps x' y')) :
    m__law_house [scr ns, .list tw, .int m] = .ok (.tuple [.int n, .tuple L20]) [none, some (.list tw'), none] := by
  simp [m__law_house, fnM, outE, body__law_house, fb__law_house_1, fb__law_house_2, c1, c2, hn, valsOf, rg, e2, derefs, so, slD, ct, tupleD, lim]
theorem house_c (ns : List Int) (tw : List D) (m : Int) (hm : 2 ≤ m ∧ m ≤ 9) (hl : tw.length ≤ 1500) : ∃ n ps tw', HsOk n ps ∧ tw'.length ≤ tw.length + 500 ∧ m__law_house [scr ns, .list tw, .int m] = .ok (hous n ps) [none, some (.list tw'), none] := by
  obtain ⟨sh, _, _, c1⟩ := draw_c ns tw 4 (by decide) (by show _ < 1000000; omega)
  obtain ⟨r, r0, r1, c2⟩ := draw_c ns (tw ++ [.int 0]) (m - 1) (by omega) (by show _ < 1000000; simp; omega)
  obtain ⟨n, hn⟩ : ∃ n : Nat, (n : Int) = 2 + r := ⟨(2 + r).toNat, by omega⟩
  obtain ⟨tw', ps, x', y', e, h1, h2, h3, h4⟩ := loop_out ns (tw ++ [.int 0] ++ [.int 0]) m sh n (by omega) (by simp; omega) none none
  have rg := rgI_ok (a := 1) (b := (n : Int)) (by omega) (by omega)
  have so := sortD_ok (n := 1) (ds := ps.map door) (by decide) (fun d hd => by obtain ⟨p, _, rfl⟩ := List.mem_map.mp hd; exact door_shp p) (fun a ha b hb => by
    obtain ⟨p, _, rfl⟩ := List.mem_map.mp ha
    obtain ⟨q, _, rfl⟩ := List.mem_map.mp hb
    exact door_alike p q) (List.all_eq_true.mpr fun d hd => by obtain ⟨p, _, rfl⟩ := List.mem_map.mp hd; rfl)
  have perm := List.mergeSort_perm (ps.map door) dleD
  have ct : PD.cutD ((ps.map door).mergeSort dleD) none (some 20) = ((ps.map door).mergeSort dleD).take 20 := by
    unfold PD.cutD
    rw [HT.sIx_none, show HT.sIx ((ps.map door).mergeSort dleD).length ((ps.map door).mergeSort dleD).length (some 20) = min 20 ((ps.map door).mergeSort dleD).length from HT.sIx_nat _ _ 20]
    simp
  have back : ((((ps.map door).mergeSort dleD).take 20).map undoor).map door = ((ps.map door).mergeSort dleD).take 20 := by
    rw [List.map_map]
    refine (List.map_congr_left fun d hd => ?_).trans (List.map_id _)
    obtain ⟨p, _, rfl⟩ := List.mem_map.mp (perm.mem_iff.mp (List.mem_of_mem_take hd))
    rfl
  refine ⟨n, (((ps.map door).mergeSort dleD).take 20).map undoor, tw', ⟨by omega, by omega, fun p hp => ?_, ?_, ?_⟩, by simp at h1; omega, ?_⟩
  · obtain ⟨d, hd, rfl⟩ := List.mem_map.mp hp
    obtain ⟨q, hq, rfl⟩ := List.mem_map.mp (perm.mem_iff.mp (List.mem_of_mem_take hd))
    exact h3 q hq
  · simp
    omega
  · rw [back]
    exact (sorted_rising (doors_toks h4)).sublist (List.take_sublist _ _)
  · show _ = Res.ok (PyData.tuple [.int n, .tuple (((((ps.map door).mergeSort dleD).take 20).map undoor).map door)]) _
    rw [back]
    rw [show tw ++ [.int 0] ++ [.int 0] = tw ++ [PyData.int 0, PyData.int 0] by simp] at e c2
    exact house_eval ns tw tw' _ _ m sh r n ps x' y' c1 c2 hn.symm rg so ct e
end U

set_option maxRecDepth 100000
set_option linter.all false
set_option maxHeartbeats 4000000
namespace U
open PySem PySem.Spec PyProof.Rows L2 RZ PD
open PySem.W (dataLt alike alikeAll keyToks keyToksAll)
theorem spot_cases {n : Int} {ps : List (Int × Int)} {z : D} (h : z ∈ spots n ps) : (∃ p ∈ ps, z = dspot p) ∨ ∃ i : Nat, (i : Int) < n - 1 ∧ z = rspot (.int (1 + i)) := by
  rcases List.mem_append.mp h with h | h
  · obtain ⟨p, hp, rfl⟩ := List.mem_map.mp h
    exact .inl ⟨p, hp, rfl⟩
  · obtain ⟨r, hr, rfl⟩ := List.mem_map.mp h
    unfold rgD at hr
    obtain ⟨i, hi, rfl⟩ := List.mem_map.mp hr
    have := List.mem_range.mp hi
    exact .inr ⟨i, by omega, rfl⟩
theorem spot_shp {n : Int} {ps : List (Int × Int)} {z : D} (h : z ∈ spots n ps) : shp 1 z = true := by
  rcases spot_cases h with ⟨p, _, rfl⟩ | ⟨i, _, rfl⟩ <;> simp [shp, shpAll, so1, so2]
theorem spot_alike {n : Int} {ps : List (Int × Int)} {y z : D} (h : y ∈ spots n ps) (h' : z ∈ spots n ps) : alike y z = true := by
  rcases spot_cases h with ⟨p, _, rfl⟩ | ⟨i, _, rfl⟩ <;> rcases spot_cases h' with ⟨q, _, rfl⟩ | ⟨j, _, rfl⟩ <;> simp [alike, alikeAll]
theorem spot_in {n : Int} {ps : List (Int × Int)} (h : HsOk n ps) {z : D} (hz : z ∈ spots n ps) : m_is_spot [hous n ps, z] = .ok (.bool true) [none, none] := by
  have h1 := h.lo
  rcases spot_cases hz with ⟨p, hp, rfl⟩ | ⟨i, hi, rfl⟩
  · have := is_spot_ok h "door" [.int p.1, .int p.2] (by simp [shp, shpAll, so1]) (by simp)
    have d := h.dr p hp
    have e : (([.int p.1, .int p.2] : List D).all fun x => wh x 0 n) = true := by simp [wh]; omega
    have e2 : ((spots n ps).any fun z => PyData.eqv z (.tuple [.str "door", .int p.1, .int p.2])) = true := List.any_eq_true.mpr ⟨_, hz, by simp [PyData.eqv, PyData.eqvAll]⟩
    rw [e, e2] at this
    exact this
  · have := is_spot_ok h "room" [.int (1 + i)] (by simp [shp, shpAll, so2]) (by simp)
    have e : (([.int (1 + i)] : List D).all fun x => wh x 0 n) = true := by simp [wh]; omega
    have e2 : ((spots n ps).any fun z => PyData.eqv z (.tuple [.str "room", .int (1 + i)])) = true := List.any_eq_true.mpr ⟨_, hz, by simp [PyData.eqv, PyData.eqvAll]⟩
    rw [e, e2] at this
    exact this
theorem law_spots_ok {n : Int} {ps : List (Int × Int)} (h : HsOk n ps) : m__law_spots [hous n ps] = .ok (.list ((spots n ps).mergeSort dleD)) [none] := by
  have hn := h.ln
  have l1 : ∃ x y, forGo (.tp [.nm 2, .nm 3]) (sDrop (eMut 1 appD (aCons (oVal (eTup (aCons (oVal (eC (.str "door"))) (aCons (oVal (eVar 2)) (aCons (oVal (eVar 3)) aNil))))) aNil))) (ps.map door) [some (hous n ps), some (.list []), none, none, none] = .nx [some (hous n ps), some (.list (ps.map dspot)), x, y, none] := by
    obtain ⟨ρ', e, x, y, rfl⟩ := forGo_inv (T := .tp [.nm 2, .nm 3]) (body := sDrop (eMut 1 appD (aCons (oVal (eTup (aCons (oVal (eC (.str "door"))) (aCons (oVal (eVar 2)) (aCons (oVal (eVar 3)) aNil))))) aNil))) (fun i ρ => ∃ x y, ρ = [some (hous n ps), some (.list ((ps.take i).map dspot)), x, y, none])
      (ps.map door) 0 [some (hous n ps), some (.list []), none, none, none] ⟨none, none, by simp⟩ (by
        rintro i d ρ hi ⟨x, y, rfl⟩
        rw [List.getElem?_map] at hi
        obtain ⟨p, hp, rfl⟩ := Option.map_eq_some_iff.mp hi
        obtain ⟨hlt, hpe⟩ := List.getElem?_eq_some_iff.mp hp
        have g1 : ((ps.take (0 + i)).map dspot).length < lim := by
          rw [List.length_map, List.length_take]
          show _ < 1000000
          omega
        have g2 : ((ps.take (0 + i)).map dspot).length + 1 ≤ lim := g1
        have tk : (ps.take (0 + i + 1)).map dspot = (ps.take (0 + i)).map dspot ++ [dspot p] := by
          rw [Nat.zero_add, List.take_succ, hp]
          simp
        refine ⟨[some (hous n ps), some (.list ((ps.take (0 + i)).map dspot)), some (.int p.1), some (.int p.2), none], _, by simp [bindT, bindTs], .inl ?_, some (.int p.1), some (.int p.2), rfl⟩
        rw [tk]
        generalize (ps.take (0 + i)).map dspot = l at g1 g2
        simp [eMut, valsOf, show (3 : Nat) ≤ lim by decide, appD, g1, g2])
    rw [Nat.zero_add, List.length_map, List.take_length] at e
    exact ⟨x, y, e⟩
  obtain ⟨x, y, l1⟩ := l1
  have l2 : lcGo (.nm 4) bYes (eTup (aCons (oVal (eC (.str "room"))) (aCons (oVal (eVar 4)) aNil))) [4] (rgD 1 n) [some (hous n ps), some (.list (ps.map dspot)), x, y, none] = .ok ((rgD 1 n).map rspot) [some (hous n ps), some (.list (ps.map dspot)), x, y, none] :=
    lcGo_map rspot (rgD 1 n) fun d hd => ⟨[some (hous n ps), some (.list (ps.map dspot)), x, y, some d], [some (hous n ps), some (.list (ps.map dspot)), x, y, some d], by simp [bindT], by simp [valsOf, lim], by simp [wipeD]⟩
  have hlen : (ps.map dspot).length + ((rgD 1 n).map rspot).length ≤ lim := by
    have := h.hi
    rw [List.length_map, List.length_map, rgD_len]
    show _ ≤ 1000000
    omega
  have ha : addD (.list (ps.map dspot)) (.list ((rgD 1 n).map rspot)) = some (.list (spots n ps)) := if_pos hlen
  have so := sortD_ok (n := 1) (ds := spots n ps) (by decide) (fun d hd => spot_shp hd) (fun a ha b hb => spot_alike ha hb) (List.all_eq_true.mpr fun d hd => by rcases spot_cases hd with ⟨p, _, rfl⟩ | ⟨i, _, rfl⟩ <;> rfl)
  simp [m__law_spots, fnM, outE, body__law_spots, fb__law_spots_1, le__law_spots_2, valsOf, ixD, atI0, atI1, itemsD, l1, wipeD, rg_ok h.lo h.hi, l2, resD, ha, derefs, so]
end U

set_option maxRecDepth 100000
set_option linter.all false
set_option maxHeartbeats 4000000
namespace U
open PySem PySem.Spec PyProof.Rows L2 RZ PD
open PySem.W (dataLt alike alikeAll keyToks keyToksAll)
theorem pick_c (ns : List Int) (tw some_ : List D) (h0 : some_ ≠ []) (hl : tw.length < lim) : ∃ d, d ∈ some_ ∧ ∀ (a : Option D) (ρ : PD.Env), callM 3 (some (1, 1)) m__law_pick [.val (scr ns), .lnd 1, .val (.list some_)] (a :: some (.list tw) :: ρ) = .ok d (a :: some (.list (tw ++ [.int 0])) :: ρ) := by
  obtain ⟨d, hd, hr⟩ := pick_ok ns tw some_ h0 hl
  exact ⟨d, hd, fun a ρ => by simp [callM, argIn, hr, putOut]⟩
def WaOk (n : Int) (ps : List (Int × Int)) (w : D) : Prop := ∃ z t, w = wat z (.str t) ∧ z ∈ spots n ps ∧ t ∈ beats10
theorem beats_so {t : Str} (h : t ∈ beats10) : PyData.strOk t = true := by
  unfold beats10 at h
  simp only [List.mem_cons, List.not_mem_nil, or_false] at h
  rcases h with rfl | rfl | rfl | rfl | rfl | rfl | rfl | rfl | rfl | rfl <;> decide +kernel
theorem wa_shp {n : Int} {ps : List (Int × Int)} {w : D} (h : WaOk n ps w) : shp 2 w = true := by
  obtain ⟨z, t, rfl, hz, ht⟩ := h
  have h1 := spot_shp hz
  have h2 := beats_so ht
  simp [shp, shpAll, h1, h2]
theorem wa_alike {n : Int} {ps : List (Int × Int)} {v w : D} (h : WaOk n ps v) (h' : WaOk n ps w) : alike v w = true := by
  obtain ⟨z, t, rfl, hz, ht⟩ := h
  obtain ⟨z', t', rfl, hz', ht'⟩ := h'
  have := spot_alike hz hz'
  simp [alike, alikeAll, this]
abbrev bodyW : PD.Env → SR := (sSeq (sSet 6 (eCall 3 (some (1, 1)) m__law_pick (aCons (oVal (eVar 0)) (aCons (oLend 1) (aCons (oVal (eLst (aCons (oVal (eC (.str "#"))) (aCons (oVal (eC (.str "#."))) (aCons (oVal (eC (.str ".#"))) (aCons (oVal (eC (.str "##."))) (aCons (oVal (eC (.str "..#"))) (aCons (oVal (eC (.str "#..#"))) (aCons (oVal (eC (.str ".#.#"))) (aCons (oVal (eC (.str "..."))) (aCons (oVal (eC (.str "#.#.#."))) (aCons (oVal (eC (.str ".##..#"))) aNil)))))))))))) aNil))))) (sSeq (sSet 7 (eTup (aCons (oVal (eCall 3 (some (1, 1)) m__law_pick (aCons (oVal (eVar 0)) (aCons (oLend 1) (aCons (oVal (eCall 1 none m__law_spots (aCons (oVal (eVar 2)) aNil))) aNil))))) (aCons (oVal (eVar 6)) aNil)))) (sIf (bOf (eOp2 notInD (oVal (eVar 7)) (oSlot 4))) (sDrop (eMut 4 appD (aCons (oVal (eVar 7)) aNil))) sNil)))
abbrev envW (ns : List Int) (tw : List D) (h : D) (m : Int) (mk : List D) (k b o : Option D) : PD.Env := [some (scr ns), some (.list tw), some h, some (.int m), some (.list mk), k, b, o]
theorem notInD_shp {k m : Nat} {d : D} {es : List D} (h1 : shp k d = true) (h2 : shp m (.list es) = true) (hk : k ≤ 64 := by decide) (hm : m ≤ 64 := by decide) : notInD d (.list es) = some (.bool (!es.any fun z => PyData.eqv z d)) := by
  simp [notInD, shaped_of h1 hk, shaped_of h2 hm]
theorem watch_in {n : Int} {ps : List (Int × Int)} (h : HsOk n ps) (ns : List Int) (tw : List D) (m : Int) (mk : List D) (k b o : Option D) (hl : tw.length ≤ 5000) (hm : mk.length ≤ 1000) (hw : ∀ w ∈ mk, WaOk n ps w) (nd : mk.Pairwise fun a b => PyData.eqv a b = false) :
    ∃ mk' b' o', bodyW (envW ns tw (hous n ps) m mk k b o) = .nx (envW ns (tw ++ [.int 0, .int 0]) (hous n ps) m mk' k b' o') ∧ mk'.length ≤ mk.length + 1 ∧ (∀ w ∈ mk', WaOk n ps w) ∧ mk'.Pairwise fun a b => PyData.eqv a b = false := by
  have hne : (spots n ps).mergeSort dleD ≠ [] := by
    intro e
    have := (List.mergeSort_perm (spots n ps) dleD).length_eq
    rw [e] at this
    have h1 := h.lo
    unfold spots at this
    rw [List.length_append, List.length_map, List.length_map, rgD_len] at this
    simp at this
    omega
  obtain ⟨td, htd, c1⟩ := pick_c ns tw (beats10.map .str) (by unfold beats10; simp) (by show _ < 1000000; omega)
  obtain ⟨t, ht, rfl⟩ := List.mem_map.mp htd
  obtain ⟨z, hz, c2⟩ := pick_c ns (tw ++ [.int 0]) ((spots n ps).mergeSort dleD) hne (by show _ < 1000000; simp; omega)
  have hz := (List.mergeSort_perm (spots n ps) dleD).mem_iff.mp hz
  have sp := fun ρ => call1 (ρ := ρ) (law_spots_ok h)
  have hx : WaOk n ps (wat z (.str t)) := ⟨z, t, rfl, hz, ht⟩
  have ni := notInD_shp (wa_shp hx) (show shp 3 (.list mk) = true from by simp only [shp]; exact shpAll_iff.mpr fun w hw' => wa_shp (hw w hw'))
  have hm' : mk.length < lim := by show _ < 1000000; omega
  have hm2 : mk.length + 1 ≤ lim := hm'
  unfold beats10 at c1
  simp only [List.map_cons, List.map_nil] at c1
  cases q : mk.any fun z' => PyData.eqv z' (wat z (.str t)) with
  | true =>
    rw [q] at ni
    refine ⟨mk, some (.str t), some (wat z (.str t)), ?_, by omega, hw, nd⟩
    simp [c1, valsOf, show (10 : Nat) ≤ lim by decide, show (2 : Nat) ≤ lim by decide, sp, c2, ni, boolD]
  | false =>
    rw [q] at ni
    refine ⟨mk ++ [wat z (.str t)], some (.str t), some (wat z (.str t)), ?_, by simp, ?_, ?_⟩
    · simp [c1, valsOf, show (10 : Nat) ≤ lim by decide, show (2 : Nat) ≤ lim by decide, sp, c2, ni, boolD, eMut, appD, hm', hm2]
    · intro w hw'
      rcases List.mem_append.mp hw' with hw' | hw'
      · exact hw w hw'
      · rw [List.mem_singleton.mp hw']; exact hx
    · rw [List.pairwise_append]
      refine ⟨nd, by simp, fun a ha b hb => ?_⟩
      rw [List.mem_singleton.mp hb]
      simpa using List.any_eq_false.mp q a ha
theorem watchers_c {n : Int} {ps : List (Int × Int)} (h : HsOk n ps) (ns : List Int) (tw : List D) (m : Int) (hm : 0 ≤ m ∧ m ≤ 20) (hl : tw.length ≤ 3000) :
    ∃ ws tw', m__law_watchers [scr ns, .list tw, hous n ps, .int m] = .ok (.tuple ws) [none, some (.list tw'), none, none] ∧ tw'.length ≤ tw.length + 100 ∧ (∀ w ∈ ws, WaOk n ps w) ∧ ws.length ≤ m ∧ ws.Pairwise fun a b => dataLt a b = true := by
  obtain ⟨r, r0, r1, c1⟩ := draw_c ns tw (m + 1) (by omega) (by show _ < 1000000; omega)
  have hlen : (rgD 0 r).length = r.toNat := by rw [rgD_len]; congr 1; omega
  obtain ⟨ρ', e, tw', mk, k, b, o, rfl, h1, h2, h3, h4⟩ := forGo_inv (T := .nm 5) (body := bodyW) (fun i ρ => ∃ tw' mk k b o, ρ = envW ns tw' (hous n ps) m mk k b o ∧ tw'.length = tw.length + 1 + 2 * i ∧ mk.length ≤ i ∧ (∀ w ∈ mk, WaOk n ps w) ∧ mk.Pairwise fun a b => PyData.eqv a b = false)
    (rgD 0 r) 0 (envW ns (tw ++ [.int 0]) (hous n ps) m [] none none none) ⟨tw ++ [.int 0], [], none, none, none, rfl, by simp, by simp, fun w hw => by simp at hw, .nil⟩ (by
      rintro i d ρ hi ⟨tw1, mk1, k1, b1, o1, rfl, g1, g2, g3, g4⟩
      obtain ⟨rfl, hlt⟩ := rgD_at hi
      obtain ⟨mk2, b2, o2, e2, q1, q2, q3⟩ := watch_in h ns tw1 m mk1 (some (.int (0 + i))) b1 o1 (by omega) (by omega) g3 g4
      exact ⟨envW ns tw1 (hous n ps) m mk1 (some (.int (0 + i))) b1 o1, _, by simp [bindT], .inl e2, _, mk2, _, b2, o2, rfl, by simp; omega, by omega, q2, q3⟩)
  rw [hlen, Nat.zero_add] at h1 h2
  have rg := rgI_ok (a := 0) (b := r) (by omega) (by omega)
  have so := sortD_ok (n := 2) (ds := mk) (by decide) (fun d hd => wa_shp (h3 d hd)) (fun a ha b hb => wa_alike (h3 a ha) (h3 b hb)) (List.all_eq_true.mpr fun d hd => by obtain ⟨z, t, rfl, _⟩ := h3 d hd; rfl)
  have perm := List.mergeSort_perm mk dleD
  refine ⟨mk.mergeSort dleD, tw', ?_, by omega, fun w hw => h3 w (perm.mem_iff.mp hw), by rw [perm.length_eq]; omega, sorted_rising (h4.imp_of_mem fun ha hb e => toks_ne (wa_alike (h3 _ ha) (h3 _ hb)) e)⟩
  have e' : forGo (.nm 5) bodyW (rgD 0 r) [some (scr ns), some (.list (tw ++ [.int 0])), some (hous n ps), some (.int m), some (.list []), none, none, none] = .nx (envW ns tw' (hous n ps) m mk k b o) := e
  simp [m__law_watchers, fnM, outE, body__law_watchers, fb__law_watchers_1, valsOf, show (0 : Nat) ≤ lim by decide, c1, rg, e', derefs, so, tupleD]
theorem watching_ok {n : Int} {ps : List (Int × Int)} (h : HsOk n ps) (ws : List D) (hw : ∀ w ∈ ws, WaOk n ps w) (hl : ws.length ≤ 12) (hp : ws.Pairwise fun a b => dataLt a b = true) : m_are_watching [hous n ps, .tuple ws] = .ok (.bool true) [none, none] := by
  have hl' : ¬ (12 : Int) < (ws.length : Int) := by omega
  have ri := rising_ok ws (fun a ha b hb => cmpOk_shp (wa_shp (hw a ha)) (wa_shp (hw b hb)) (by decide) (by decide) (wa_alike (hw a ha) (hw b hb)) (by obtain ⟨z, t, rfl, _⟩ := hw a ha; rfl)) hp
  have cr := fun ρ => call1 (ρ := ρ) ri
  have lc : lcGo (.nm 2) bYes (eCall 2 none m_is_watcher (aCons (oVal (eVar 0)) (aCons (oVal (eVar 2)) aNil))) [2] ws [some (hous n ps), some (.tuple ws), none] = .ok (ws.map fun _ => .bool true) [some (hous n ps), some (.tuple ws), none] := by
    refine lcGo_map (fun _ => .bool true) ws fun d hd => ?_
    obtain ⟨z, t, rfl, hz, ht⟩ := hw d hd
    have c := fun ρ => call2 (ρ := ρ) (watcher_c (spot_in h hz) ht)
    exact ⟨[some (hous n ps), some (.tuple ws), some (wat z (.str t))], [some (hous n ps), some (.tuple ws), some (wat z (.str t))], by simp [bindT], by simp [c], by simp [wipeD]⟩
  have at0 := allD_true ws
  simp [m_are_watching, fnM, outE, body_are_watching, le_are_watching_1, isiD, isi, boolD, lenD, derefs, gtD_int, hl', itemsD, wipeD, lc, resD, at0, cr]
end U

set_option maxRecDepth 100000
set_option linter.all false
set_option maxHeartbeats 4000000
namespace U
open PySem PySem.Spec PyProof.Rows L2 RZ PD
open PySem.W (dataLt alike alikeAll keyToks keyToksAll)
/-! ### loops over typed lists -/
section
variable {α : Type} {T : Tg} {elt : PD.Env → Res D} {cond : PD.Env → Res Bool} {body : PD.Env → SR} {own : List Nat} {ρ : PD.Env}
theorem lcGo_mapT (enc g : α → D) : ∀ (xs : List α), (∀ x ∈ xs, ∃ ρ1 ρ2, bindT T (enc x) ρ = some ρ1 ∧ elt ρ1 = .ok (g x) ρ2 ∧ wipeD ρ2 own = ρ) → lcGo T bYes elt own (xs.map enc) ρ = .ok (xs.map g) ρ
  | [], _ => rfl
  | x :: xs, h => by
    obtain ⟨ρ1, ρ2, h1, h2, h3⟩ := h x List.mem_cons_self
    have ih := lcGo_mapT enc g xs fun e he => h e (List.mem_cons_of_mem _ he)
    rw [List.map_cons]
    unfold lcGo
    rw [h1]
    simp only [bYes, bnd_ok, if_pos, h2, h3, ih, List.map_cons]
theorem lcGo_filterT (enc : α → D) (p : α → Bool) (g : α → D) : ∀ (xs : List α), (∀ x ∈ xs, ∃ ρ1 ρ2, bindT T (enc x) ρ = some ρ1 ∧ cond ρ1 = .ok (p x) ρ2 ∧ (p x = false → wipeD ρ2 own = ρ) ∧ (p x = true → ∃ ρ3, elt ρ2 = .ok (g x) ρ3 ∧ wipeD ρ3 own = ρ)) →
    lcGo T cond elt own (xs.map enc) ρ = .ok ((xs.filter p).map g) ρ
  | [], _ => rfl
  | x :: xs, h => by
    obtain ⟨ρ1, ρ2, h1, h2, h3, h4⟩ := h x List.mem_cons_self
    have ih := lcGo_filterT enc p g xs fun e he => h e (List.mem_cons_of_mem _ he)
    rw [List.map_cons]
    unfold lcGo
    rw [h1]
    simp only [h2, bnd_ok]
    cases q : p x with
    | false => simp only [h3 q, ih, List.filter_cons, q]; simp
    | true =>
      obtain ⟨ρ3, h5, h6⟩ := h4 q
      simp only [if_pos, h5, bnd_ok, h6, ih, List.filter_cons, q]
      simp
theorem forGo_pre (enc : α → D) (I : List α → PD.Env → Prop) : ∀ (xs pre : List α) (ρ : PD.Env), I pre ρ →
    (∀ p x q ρ, pre ++ xs = p ++ x :: q → I p ρ → ∃ ρ1 ρ2, bindT T (enc x) ρ = some ρ1 ∧ (body ρ1 = .nx ρ2 ∨ body ρ1 = .ct ρ2) ∧ I (p ++ [x]) ρ2) → ∃ ρ', forGo T body (xs.map enc) ρ = .nx ρ' ∧ I (pre ++ xs) ρ'
  | [], pre, ρ, h, _ => ⟨ρ, rfl, by simpa using h⟩
  | x :: xs, pre, ρ, h, step => by
    obtain ⟨ρ1, ρ2, h1, h2, h3⟩ := step pre x xs ρ rfl h
    obtain ⟨ρ', e, h4⟩ := forGo_pre enc I xs (pre ++ [x]) ρ2 h3 fun p y q ρ hp hi => step p y q ρ (by rw [← hp]; simp) hi
    refine ⟨ρ', ?_, by simpa using h4⟩
    rw [List.map_cons]
    unfold forGo
    rw [h1]
    rcases h2 with h2 | h2 <;> (simp only [h2]; exact e)
end
/-! ### spots, beats, watchers -/
inductive Sp where
  | dr (a b : Int)
  | rm (r : Int)
  deriving DecidableEq
def encS : Sp → D
  | .dr a b => dspot (a, b)
  | .rm r => rspot (.int r)
def SpOk (n : Int) (ps : List (Int × Int)) : Sp → Prop
  | .dr a b => (a, b) ∈ ps
  | .rm r => 1 ≤ r ∧ r < n
theorem mem_rgD {a b : Int} {d : D} : d ∈ rgD a b ↔ ∃ i : Int, a ≤ i ∧ i < b ∧ d = .int i := by
  unfold rgD
  rw [List.mem_map]
  constructor
  · rintro ⟨i, hi, rfl⟩
    rw [List.mem_range] at hi
    exact ⟨a + (i : Nat), by omega, by omega, rfl⟩
  · rintro ⟨i, h1, h2, rfl⟩
    exact ⟨(i - a).toNat, List.mem_range.mpr (by omega), by congr 1; omega⟩
theorem mem_spots {n : Int} {ps : List (Int × Int)} {z : D} : z ∈ spots n ps ↔ ∃ s, SpOk n ps s ∧ z = encS s := by
  unfold spots
  rw [List.mem_append, List.mem_map, List.mem_map]
  constructor
  · rintro (⟨p, hp, rfl⟩ | ⟨r, hr, rfl⟩)
    · exact ⟨.dr p.1 p.2, hp, rfl⟩
    · obtain ⟨i, h1, h2, rfl⟩ := mem_rgD.mp hr
      exact ⟨.rm i, ⟨h1, h2⟩, rfl⟩
  · rintro ⟨s, hs, rfl⟩
    cases s with
    | dr a b => exact .inl ⟨(a, b), hs, rfl⟩
    | rm r => exact .inr ⟨.int r, mem_rgD.mpr ⟨r, hs.1, hs.2, rfl⟩, rfl⟩
theorem encS_shp (s : Sp) : shp 1 (encS s) = true := by cases s <;> simp [encS, shp, shpAll, so1, so2]
theorem encS_alike (s t : Sp) : alike (encS s) (encS t) = true := by cases s <;> cases t <;> simp [encS, alike, alikeAll]
theorem encS_eqv (s t : Sp) : PyData.eqv (encS s) (encS t) = decide (s = t) := by
  cases s <;> cases t <;> simp [encS, PyData.eqv, PyData.eqvAll, sne1, sne2, Bool.beq_eq_decide_eq]
theorem encS_inj {s t : Sp} (h : encS s = encS t) : s = t := by
  cases s <;> cases t <;> simp [encS] at h <;> simp [h]
/-- a text of beats -/
def bc (b : Bool) : Nat := if b then 35 else 46
def bt (l : List Bool) : Str := ⟨(l.map bc).toArray⟩
theorem bt_len (l : List Bool) : (bt l).length = l.length := by simp [bt, Str.length]
theorem bt_cps (l : List Bool) : (bt l).cps.toList = l.map bc := by simp [bt]
theorem bc_inj {a b : Bool} (h : bc a = bc b) : a = b := by cases a <;> cases b <;> simp_all [bc]
theorem bt_inj {a b : List Bool} (h : bt a = bt b) : a = b := by
  have : (bt a).cps.toList = (bt b).cps.toList := by rw [h]
  rw [bt_cps, bt_cps] at this
  exact (List.map_inj_right fun _ _ e => bc_inj e).mp this
theorem bt_ok (l : List Bool) : PyData.strOk (bt l) = true := by
  unfold PyData.strOk bt
  simp [bc]
abbrev Wt := Sp × List Bool
def encW (w : Wt) : D := wat (encS w.1) (.str (bt w.2))
theorem encW_shp (w : Wt) : shp 2 (encW w) = true := by
  have h := encS_shp w.1
  have h2 := bt_ok w.2
  simp [encW, shp, shpAll, h, h2]
theorem encW_alike (v w : Wt) : alike (encW v) (encW w) = true := by
  have := encS_alike v.1 w.1
  simp [encW, alike, alikeAll, this]
theorem encW_inj {v w : Wt} (h : encW v = encW w) : v = w := by
  simp only [encW, PyData.tuple.injEq, List.cons.injEq, PyData.str.injEq, and_true] at h
  exact Prod.ext (encS_inj h.1) (bt_inj h.2)
/-- one watcher of a house -/
structure WtOk (n : Int) (ps : List (Int × Int)) (w : Wt) : Prop where
  sp : SpOk n ps w.1
  lo : 1 ≤ w.2.length
  hi : w.2.length ≤ 6
structure WsOk (n : Int) (ps : List (Int × Int)) (ws : List Wt) : Prop where
  ok : ∀ w ∈ ws, WtOk n ps w
  ln : ws.length ≤ 12
  up : ws.Pairwise fun a b => dataLt (encW a) (encW b) = true
def unbt (s : Str) : List Bool := s.cps.toList.map fun c => c == 35
theorem beats_bt {t : Str} (h : t ∈ beats10) : bt (unbt t) = t ∧ 1 ≤ (unbt t).length ∧ (unbt t).length ≤ 6 := by
  unfold beats10 at h
  simp only [List.mem_cons, List.not_mem_nil, or_false] at h
  rcases h with rfl | rfl | rfl | rfl | rfl | rfl | rfl | rfl | rfl | rfl <;> exact ⟨by decide +kernel, by decide +kernel, by decide +kernel⟩
theorem typed_one {n : Int} {ps : List (Int × Int)} {w : D} (h : WaOk n ps w) : ∃ v : Wt, w = encW v ∧ WtOk n ps v ∧ bt v.2 ∈ beats10 := by
  obtain ⟨z, t, rfl, hz, ht⟩ := h
  obtain ⟨s, hs, rfl⟩ := mem_spots.mp hz
  obtain ⟨e, h1, h2⟩ := beats_bt ht
  exact ⟨(s, unbt t), by simp [encW, e], ⟨hs, h1, h2⟩, by rw [e]; exact ht⟩
theorem typed_ws {n : Int} {ps : List (Int × Int)} : ∀ {ws : List D}, (∀ w ∈ ws, WaOk n ps w) → ∃ us : List Wt, ws = us.map encW ∧ (∀ u ∈ us, WtOk n ps u ∧ bt u.2 ∈ beats10)
  | [], _ => ⟨[], rfl, by simp⟩
  | w :: ws, h => by
    obtain ⟨v, rfl, h1, h2⟩ := typed_one (h w List.mem_cons_self)
    obtain ⟨us, rfl, h3⟩ := typed_ws fun e he => h e (List.mem_cons_of_mem _ he)
    refine ⟨v :: us, rfl, fun u hu => ?_⟩
    rcases List.mem_cons.mp hu with rfl | hu
    · exact ⟨h1, h2⟩
    · exact h3 u hu
/-- the drawn watchers, typed -/
theorem watchers_t {n : Int} {ps : List (Int × Int)} (h : HsOk n ps) (ns : List Int) (tw : List D) (m : Int) (hm : 0 ≤ m ∧ m ≤ 12) (hl : tw.length ≤ 3000) :
    ∃ ws tw', m__law_watchers [scr ns, .list tw, hous n ps, .int m] = .ok (.tuple (ws.map encW)) [none, some (.list tw'), none, none] ∧ tw'.length ≤ tw.length + 100 ∧ WsOk n ps ws ∧ ws.length ≤ m ∧ ∀ w ∈ ws, bt w.2 ∈ beats10 := by
  obtain ⟨ws, tw', e, h1, h2, h3, h4⟩ := watchers_c h ns tw m ⟨hm.1, by omega⟩ hl
  obtain ⟨us, rfl, h5⟩ := typed_ws h2
  rw [List.length_map] at h3
  exact ⟨us, tw', e, h1, ⟨fun u hu => (h5 u hu).1, by omega, List.pairwise_map.mp h4⟩, h3, fun u hu => (h5 u hu).2⟩
theorem sign_b (b : Bool) : inD (chD (bc b)) (.str "#.") = some (.bool true) := by
  cases b
  · exact sin2
  · exact sin1
theorem spot_t {n : Int} {ps : List (Int × Int)} (h : HsOk n ps) {s : Sp} (hs : SpOk n ps s) : m_is_spot [hous n ps, encS s] = .ok (.bool true) [none, none] := spot_in h (mem_spots.mpr ⟨s, hs, rfl⟩)
theorem watcher_t {n : Int} {ps : List (Int × Int)} (h : HsOk n ps) {w : Wt} (hw : WtOk n ps w) : m_is_watcher [hous n ps, encW w] = .ok (.bool true) [none, none] := by
  have l1 : lcGo (.nm 2) bYes le_is_watcher_1 [2] ((bt w.2).cps.toList.map chD) [some (hous n ps), some (encW w), none] = .ok (w.2.map fun _ => .bool true) [some (hous n ps), some (encW w), none] := by
    rw [bt_cps, List.map_map]
    refine lcGo_mapT (chD ∘ bc) (fun _ => .bool true) _ fun b _ => ⟨[some (hous n ps), some (encW w), some (chD (bc b))], [some (hous n ps), some (encW w), some (chD (bc b))], by simp [bindT], ?_, by simp [wipeD]⟩
    simp [le_is_watcher_1, sign_b]
  have c := fun ρ => call2 (ρ := ρ) (spot_t h hw.sp)
  have at0 : allD [.list (w.2.map fun _ => .bool true)] = some (.bool true) := by
    have : (w.2.map fun _ => (.bool true : D)) = (w.2.map fun b => (.int (if b then 1 else 0) : D)).map fun _ => .bool true := by simp
    rw [this]; exact allD_true _
  have g0 := bt_len w.2
  have hlo := hw.lo
  have hhi := hw.hi
  have g1 : (1 : Int) ≤ (w.2.length : Int) := by omega
  have g2 : (w.2.length : Int) ≤ 6 := by omega
  unfold encW at l1 ⊢
  simp [m_is_watcher, fnM, outE, body_is_watcher, isiD, isi, boolD, lenD, derefs, neD_int, ixD, atI0, atI1, c, leD_int, g0, g1, g2, itemsD, wipeD, l1, resD, at0, -List.map_map]
theorem watching_t {n : Int} {ps : List (Int × Int)} (h : HsOk n ps) {ws : List Wt} (hw : WsOk n ps ws) : m_are_watching [hous n ps, .tuple (ws.map encW)] = .ok (.bool true) [none, none] := by
  have hl := hw.ln
  have hl' : ¬ (12 : Int) < (ws.length : Int) := by omega
  have ri := rising_ok (ws.map encW) (fun a ha b hb => by
    obtain ⟨v, hv, rfl⟩ := List.mem_map.mp ha
    obtain ⟨u, hu, rfl⟩ := List.mem_map.mp hb
    exact cmpOk_shp (encW_shp v) (encW_shp u) (by decide) (by decide) (encW_alike v u) rfl) (List.pairwise_map.mpr hw.up)
  have cr := fun ρ => call1 (ρ := ρ) ri
  have lc : lcGo (.nm 2) bYes le_are_watching_1 [2] (ws.map encW) [some (hous n ps), some (.tuple (ws.map encW)), none] = .ok ((ws.map encW).map fun _ => .bool true) [some (hous n ps), some (.tuple (ws.map encW)), none] := by
    refine (lcGo_mapT encW (fun _ => .bool true) ws fun w hd => ?_).trans (by rw [List.map_map]; rfl)
    have c := fun ρ => call2 (ρ := ρ) (watcher_t h (hw.ok w hd))
    exact ⟨[some (hous n ps), some (.tuple (ws.map encW)), some (encW w)], [some (hous n ps), some (.tuple (ws.map encW)), some (encW w)], by simp [bindT], by simp [le_are_watching_1, c], by simp [wipeD]⟩
  have at0 := allD_true (ws.map encW)
  simp [m_are_watching, fnM, outE, body_are_watching, isiD, isi, boolD, lenD, derefs, gtD_int, hl', itemsD, wipeD, lc, resD, at0, cr, -List.map_map]
theorem need_watchers_t {n : Int} {ps : List (Int × Int)} (h : HsOk n ps) {ws : List Wt} (hw : WsOk n ps ws) : m_need_watchers [hous n ps, .tuple (ws.map encW)] = .ok .none [none, none] := by
  have c := fun ρ => call1 (ρ := ρ) (need_house_ok h)
  have c2 := fun ρ => call2 (ρ := ρ) (watching_t h hw)
  simp [m_need_watchers, fnM, outE, body_need_watchers, c, c2, boolD]
theorem need_goal_t {n : Int} {ps : List (Int × Int)} {g : Int} (hg : 1 ≤ g ∧ g < n) : m_need_goal [hous n ps, .int g] = .ok .none [none, none] := by
  have c := fun ρ => whole_c ρ g 1 (n - 1)
  have h1 : g ≤ n - 1 := by omega
  simp [m_need_goal, fnM, outE, body_need_goal, ixD, atI0, subD, c, boolD, hg.1, h1]
end U

set_option maxRecDepth 100000
set_option linter.all false
set_option maxHeartbeats 4000000
namespace U
open PySem PySem.Spec PyProof.Rows L2 RZ PD
open PySem.W (dataLt alike alikeAll keyToks keyToksAll)
/-! ### sorted, of whole numbers and of ways -/
theorem sort_typed {α : Type} (enc : α → D) {xs ys : List α} (p : ys.Perm xs) (pl : ∀ x ∈ xs, plainK (enc x) = true) (al : ∀ x ∈ xs, ∀ y ∈ xs, alike (enc x) (enc y) = true) (s : ys.Pairwise fun a b => dleD (enc a) (enc b) = true) : (xs.map enc).mergeSort dleD = ys.map enc := by
  refine eq_of_perm_le (le := fun a b => dleD a b = true) ((List.mergeSort_perm _ _).trans (p.map enc).symm) (List.pairwise_mergeSort dle_trans' dle_total' _) (List.pairwise_map.mpr s) fun a ha b hb h1 h2 => ?_
  have ha' := (List.mergeSort_perm _ _).mem_iff.mp ha
  have hb' := (List.mergeSort_perm _ _).mem_iff.mp hb
  obtain ⟨x, hx, rfl⟩ := List.mem_map.mp ha'
  obtain ⟨y, hy, rfl⟩ := List.mem_map.mp hb'
  exact dle_anti (pl x hx) (pl y hy) (al x hx y hy) h1 h2
theorem sort_ints {xs ys : List Int} (p : ys.Perm xs) (s : ys.Pairwise (· ≤ ·)) : sortD [.list (xs.map .int)] = some (.list (ys.map .int)) := by
  have : sortOk (xs.map .int) = true := by
    unfold sortOk
    rw [Bool.and_eq_true, Bool.and_eq_true]
    refine ⟨⟨List.all_eq_true.mpr fun d hd => ?_, List.all_eq_true.mpr fun a ha => List.all_eq_true.mpr fun b hb => ?_⟩, Bool.or_eq_true _ _ ▸ .inr (List.all_eq_true.mpr fun d hd => ?_)⟩
    · obtain ⟨x, _, rfl⟩ := List.mem_map.mp hd
      rfl
    · obtain ⟨x, _, rfl⟩ := List.mem_map.mp ha
      obtain ⟨y, _, rfl⟩ := List.mem_map.mp hb
      simp [alike]
    · obtain ⟨x, _, rfl⟩ := List.mem_map.mp hd
      rfl
  show (if sortOk (xs.map .int) = true then some (PyData.list ((xs.map .int).mergeSort dleD)) else none) = _
  rw [if_pos this, sort_typed PyData.int p (fun _ _ => rfl) (fun _ _ _ _ => by simp [alike]) (s.imp fun {a b} h => ?_)]
  unfold dleD
  rw [PySem.W.dataLt_int]
  simp; exact h
theorem addL {a b : List D} (h : a.length + b.length ≤ lim) : addD (.list a) (.list b) = some (.list (a ++ b)) := by
  show (if a.length + b.length ≤ lim then some (PyData.list (a ++ b)) else none) = _
  rw [if_pos h]
theorem addT {a b : List D} (h : a.length + b.length ≤ lim) : addD (.tuple a) (.tuple b) = some (.tuple (a ++ b)) := by
  show (if a.length + b.length ≤ lim then some (PyData.tuple (a ++ b)) else none) = _
  rw [if_pos h]
/-! ### rooms beside one another -/
def adj (ps : List (Int × Int)) (a b : Int) : Bool := decide ((a, b) ∈ ps) || decide ((b, a) ∈ ps)
def rooms (n : Int) : List Int := (List.range n.toNat).map fun i => ((i : Nat) : Int)
def nb (n : Int) (ps : List (Int × Int)) (r : Int) : List Int := (rooms n).filter fun x => adj ps r x
def nx (n : Int) (ps : List (Int × Int)) (r : Int) : List Int := (rooms n).filter fun x => x == r || adj ps r x
theorem mem_rooms {n r : Int} : r ∈ rooms n ↔ 0 ≤ r ∧ r < n := by
  unfold rooms
  rw [List.mem_map]
  constructor
  · rintro ⟨i, hi, rfl⟩
    rw [List.mem_range] at hi
    omega
  · rintro ⟨h1, h2⟩
    exact ⟨r.toNat, List.mem_range.mpr (by omega), by omega⟩
theorem rooms_up (n : Int) : (rooms n).Pairwise (· < ·) := by
  unfold rooms
  rw [List.pairwise_map]
  exact List.pairwise_lt_range.imp fun h => by omega
theorem nx_up (n : Int) (ps : List (Int × Int)) (r : Int) : (nx n ps r).Pairwise (· < ·) := (rooms_up n).filter _
theorem nb_up (n : Int) (ps : List (Int × Int)) (r : Int) : (nb n ps r).Pairwise (· < ·) := (rooms_up n).filter _
theorem up_nodup {l : List Int} (h : l.Pairwise (· < ·)) : l.Nodup := h.imp fun h => by omega
theorem up_le {l : List Int} (h : l.Pairwise (· < ·)) : l.Pairwise (· ≤ ·) := h.imp fun h => by omega
theorem mem_nx {n : Int} {ps : List (Int × Int)} {r x : Int} : x ∈ nx n ps r ↔ (0 ≤ x ∧ x < n) ∧ (x = r ∨ (r, x) ∈ ps ∨ (x, r) ∈ ps) := by
  simp [nx, mem_rooms, adj]
theorem mem_nb {n : Int} {ps : List (Int × Int)} {r x : Int} : x ∈ nb n ps r ↔ (0 ≤ x ∧ x < n) ∧ ((r, x) ∈ ps ∨ (x, r) ∈ ps) := by
  simp [nb, mem_rooms, adj]
theorem ps_nodup {n : Int} {ps : List (Int × Int)} (h : HsOk n ps) : ps.Nodup := by
  have := h.ri
  rw [List.pairwise_map] at this
  refine this.imp fun {a b} h e => ?_
  rw [e] at h
  unfold door at h
  rw [PySem.W.dataLt_ii] at h
  simp at h
/-- the neighbours of a room, by the doors -/
def nbl (ps : List (Int × Int)) (r : Int) : List Int := ((ps.filter fun q => q.1 == r).map (·.2)) ++ ((ps.filter fun q => q.2 == r).map (·.1))
theorem mem_nbl {ps : List (Int × Int)} {r x : Int} : x ∈ nbl ps r ↔ (r, x) ∈ ps ∨ (x, r) ∈ ps := by
  unfold nbl
  rw [List.mem_append, List.mem_map, List.mem_map]
  constructor
  · rintro (⟨q, hq, rfl⟩ | ⟨q, hq, rfl⟩)
    · rw [List.mem_filter, beq_iff_eq] at hq
      obtain ⟨hq, rfl⟩ := hq
      exact .inl hq
    · rw [List.mem_filter, beq_iff_eq] at hq
      obtain ⟨hq, rfl⟩ := hq
      exact .inr hq
  · rintro (h | h)
    · exact .inl ⟨(r, x), by simp [h], rfl⟩
    · exact .inr ⟨(x, r), by simp [h], rfl⟩
theorem nodup_map_on {α β : Type} {f : α → β} : ∀ {l : List α}, l.Nodup → (∀ a ∈ l, ∀ b ∈ l, f a = f b → a = b) → (l.map f).Nodup
  | [], _, _ => by simp
  | x :: l, h, i => by
    rw [List.nodup_cons] at h
    rw [List.map_cons, List.nodup_cons]
    refine ⟨fun z => ?_, nodup_map_on h.2 fun a ha b hb => i a (List.mem_cons_of_mem _ ha) b (List.mem_cons_of_mem _ hb)⟩
    obtain ⟨y, hy, e⟩ := List.mem_map.mp z
    exact h.1 (i y (List.mem_cons_of_mem _ hy) x List.mem_cons_self e ▸ hy)
theorem nbl_nodup {n : Int} {ps : List (Int × Int)} (h : HsOk n ps) (r : Int) : (nbl ps r).Nodup := by
  have nd := ps_nodup h
  refine List.nodup_append.mpr ⟨nodup_map_on (nd.filter _) fun a ha b hb e => ?_, nodup_map_on (nd.filter _) fun a ha b hb e => ?_, fun x hx y hy e => ?_⟩
  · rw [List.mem_filter, beq_iff_eq] at ha hb
    exact Prod.ext (ha.2.trans hb.2.symm) e
  · rw [List.mem_filter, beq_iff_eq] at ha hb
    exact Prod.ext e (ha.2.trans hb.2.symm)
  · subst e
    obtain ⟨p, hp, e1⟩ := List.mem_map.mp hx
    obtain ⟨q, hq, e2⟩ := List.mem_map.mp hy
    rw [List.mem_filter, beq_iff_eq] at hp hq
    have h1 := h.dr p hp.1
    have h2 := h.dr q hq.1
    omega
theorem nb_perm {n : Int} {ps : List (Int × Int)} (h : HsOk n ps) (r : Int) : (nb n ps r).Perm (nbl ps r) := by
  refine (List.perm_ext_iff_of_nodup (up_nodup (nb_up n ps r)) (nbl_nodup h r)).mpr fun x => ?_
  rw [mem_nb, mem_nbl]
  refine ⟨fun z => z.2, fun z => ⟨?_, z⟩⟩
  rcases z with z | z
  · have := h.dr _ z; exact ⟨by omega, by omega⟩
  · have := h.dr _ z; exact ⟨by omega, by omega⟩
theorem nx_perm {n : Int} {ps : List (Int × Int)} (h : HsOk n ps) {r : Int} (hr : 0 ≤ r ∧ r < n) : (nx n ps r).Perm (nb n ps r ++ [r]) := by
  refine (List.perm_ext_iff_of_nodup (up_nodup (nx_up n ps r)) (List.nodup_append.mpr ⟨up_nodup (nb_up n ps r), by simp, fun x hx y hy e => ?_⟩)).mpr fun x => ?_
  · rw [List.mem_singleton] at hy
    rw [e, hy, mem_nb] at hx
    rcases hx.2 with z | z <;> (have := h.dr _ z; omega)
  · rw [mem_nx, List.mem_append, mem_nb, List.mem_singleton]
    constructor
    · rintro ⟨a, b | b⟩
      · exact .inr b
      · exact .inl ⟨a, b⟩
    · rintro (⟨a, b⟩ | b)
      · exact ⟨a, .inr b⟩
      · subst b; exact ⟨hr, .inl rfl⟩
theorem nbl_len {ps : List (Int × Int)} (r : Int) : (nbl ps r).length ≤ 2 * ps.length := by
  unfold nbl
  rw [List.length_append, List.length_map, List.length_map]
  have h1 := List.length_filter_le (fun q : Int × Int => q.1 == r) ps
  have h2 := List.length_filter_le (fun q : Int × Int => q.2 == r) ps
  omega
abbrev intsL (l : List Int) : D := .list (l.map .int)
theorem beside_t {n : Int} {ps : List (Int × Int)} (h : HsOk n ps) (r : Int) : m_beside [hous n ps, .int r] = .ok (intsL (nb n ps r)) [none, none] := by
  have l1 : ∀ x, lcGo (.tp [.nm 3, .nm 4]) lt_beside_1 le_beside_1 [3, 4] (ps.map door) [some (hous n ps), some (.int r), x, none, none] = .ok ((ps.filter fun q => q.1 == r).map fun q => .int q.2) [some (hous n ps), some (.int r), x, none, none] := fun x =>
    lcGo_filterT door (fun q => q.1 == r) (fun q => .int q.2) ps fun q hq => ⟨[some (hous n ps), some (.int r), x, some (.int q.1), some (.int q.2)], [some (hous n ps), some (.int r), x, some (.int q.1), some (.int q.2)], by simp [bindT, bindTs], by simp [lt_beside_1, eqD_int, boolD], fun _ => by simp [wipeD], fun _ => ⟨[some (hous n ps), some (.int r), x, some (.int q.1), some (.int q.2)], by simp [le_beside_1], by simp [wipeD]⟩⟩
  have l2 : ∀ x, lcGo (.tp [.nm 3, .nm 4]) lt_beside_2 le_beside_2 [3, 4] (ps.map door) [some (hous n ps), some (.int r), x, none, none] = .ok ((ps.filter fun q => q.2 == r).map fun q => .int q.1) [some (hous n ps), some (.int r), x, none, none] := fun x =>
    lcGo_filterT door (fun q => q.2 == r) (fun q => .int q.1) ps fun q hq => ⟨[some (hous n ps), some (.int r), x, some (.int q.1), some (.int q.2)], [some (hous n ps), some (.int r), x, some (.int q.1), some (.int q.2)], by simp [bindT, bindTs], by simp [lt_beside_2, eqD_int, boolD], fun _ => by simp [wipeD], fun _ => ⟨[some (hous n ps), some (.int r), x, some (.int q.1), some (.int q.2)], by simp [le_beside_2], by simp [wipeD]⟩⟩
  have so : sortD [.list ((ps.filter fun q => q.1 == r).map (fun q => PyData.int q.2) ++ (ps.filter fun q => q.2 == r).map fun q => PyData.int q.1)] = some (intsL (nb n ps r)) := by
    rw [← sort_ints (nb_perm h r) (up_le (nb_up n ps r))]
    simp [nbl, List.map_append, List.map_map, Function.comp_def]
  have ad : addD (.list ((ps.filter fun q => q.1 == r).map fun q => PyData.int q.2)) (.list ((ps.filter fun q => q.2 == r).map fun q => PyData.int q.1)) = some (.list ((ps.filter fun q => q.1 == r).map (fun q => PyData.int q.2) ++ (ps.filter fun q => q.2 == r).map fun q => PyData.int q.1)) := by
    have := nbl_len (ps := ps) r
    have h2 := h.ln
    unfold nbl at this
    rw [List.length_append, List.length_map, List.length_map] at this
    exact addL (by rw [List.length_map, List.length_map]; show _ ≤ 1000000; omega)
  simp [m_beside, fnM, outE, body_beside, ixD, atI0, atI1, itemsD, wipeD, l1, l2, resD, ad, derefs, so]
theorem law_beside_t {n : Int} {ps : List (Int × Int)} (h : HsOk n ps) {r : Int} (hr : 0 ≤ r ∧ r < n) : m__law_beside [hous n ps, .int r] = .ok (intsL (nx n ps r)) [none, none] := by
  obtain ⟨ρ', e, x, y, l, hl, rfl⟩ := forGo_pre (T := .tp [.nm 3, .nm 4]) (body := fb__law_beside_1) door (fun pre ρ => ∃ x y l, (∀ z, List.count z l = List.count z (r :: nbl pre r)) ∧ ρ = [some (hous n ps), some (.int r), some (intsL l), x, y]) ps [] [some (hous n ps), some (.int r), some (.list [.int r]), none, none] ⟨none, none, [r], fun z => rfl, rfl⟩ (by
    rintro p q post ρ hp ⟨x, y, l, hl, rfl⟩
    have hlen : l.length = (r :: nbl p r).length := (List.perm_iff_count.mpr hl).length_eq
    have hps : p.length ≤ 20 := by have := h.ln; rw [show ps = p ++ q :: post from hp] at this; simp at this; omega
    have hnl := nbl_len (ps := p) r
    have e1 : ∀ (v : Int), mulD (.list [.int v]) (.int 1) = some (.list [.int v]) := fun v => rfl
    have e0 : ∀ (v : Int), mulD (.list [.int v]) (.int 0) = some (.list []) := fun v => rfl
    have i1 : PD.intOfD [.bool true] = some (.int 1) := rfl
    have i0 : PD.intOfD [.bool false] = some (.int 0) := rfl
    have e2 : l.length + 2 ≤ lim := by rw [hlen, List.length_cons]; show _ ≤ 1000000; omega
    refine ⟨[some (hous n ps), some (.int r), some (intsL l), some (.int q.1), some (.int q.2)], [some (hous n ps), some (.int r), some (intsL (l ++ ((if q.1 == r then [q.2] else []) ++ (if q.2 == r then [q.1] else [])))), some (.int q.1), some (.int q.2)], by simp [bindT, bindTs], .inl ?_, _, _, _, ?_, rfl⟩
    · cases h1 : (q.1 == r) <;> cases h2 : (q.2 == r) <;> simp [fb__law_beside_1, eqD_int, i1, i0, e1, e0, derefs, h1, h2, eMut, extD, valsOf, addD, show (2 : Nat) ≤ lim by decide, show (1 : Nat) ≤ lim by decide, show l.length + 1 ≤ lim by omega, show l.length ≤ lim by omega, e2]
    · intro z
      rw [List.count_append, hl]
      unfold nbl
      rw [List.filter_append, List.filter_append]
      cases h1 : (q.1 == r) <;> cases h2 : (q.2 == r) <;> simp [h1, h2, List.count_cons, List.count_append] <;> omega)
  have p : (nx n ps r).Perm l := (nx_perm h hr).trans (((nb_perm h r).append_right [r]).trans ((List.perm_append_comm).trans (List.perm_iff_count.mpr hl).symm))
  have so := sort_ints p (up_le (nx_up n ps r))
  have e' : forGo (.tp [.nm 3, .nm 4]) fb__law_beside_1 (ps.map door) [some (hous n ps), some (.int r), some (.list [.int r]), none, none] = .nx [some (hous n ps), some (.int r), some (intsL l), x, y] := e
  simp [m__law_beside, fnM, outE, body__law_beside, valsOf, lim, ixD, atI0, atI1, itemsD, e', derefs, so]
end U

set_option maxRecDepth 100000
set_option linter.all false
set_option maxHeartbeats 4000000
namespace U
open PySem PySem.Spec PyProof.Rows L2 RZ PD
open PySem.W (dataLt alike alikeAll keyToks keyToksAll)
@[simp] theorem ev_iEnumD {fd : PD.Env → Res D} {ρ : PD.Env} : iEnumD fd ρ = bnd (fd ρ) fun d ρ1 => ofO (enumItems d) ρ1 := rfl
theorem atI_in {α : Type} {xs : List α} {i : Int} (h0 : 0 ≤ i) (h1 : i < xs.length) : L2.atI xs i = xs[i.toNat]? := by
  unfold L2.atI L2.ixN
  rw [if_pos h0, if_pos h1]; rfl
/-! ### who sees what -/
def onB (b : List Bool) (k : Int) : Bool := b.getD (k % b.length).toNat false
def seeW (w : Wt) (z : Sp) (k : Int) : Bool := decide (w.1 = z) && onB w.2 k
def encO : Option Sp → D
  | none => .none
  | some s => encS s
def seesO (w : Wt) (z : Option Sp) (k : Int) : Bool := match z with
  | none => false
  | some s => seeW w s k
theorem bt_ix {b : List Bool} (h : 1 ≤ b.length) (k : Int) : ixD (.str (bt b)) (.int (k % b.length)) = some (chD (bc (onB b k))) := by
  have h0 : 0 ≤ k % b.length := Int.emod_nonneg _ (by omega)
  have h1 : k % b.length < b.length := Int.emod_lt_of_pos _ (by omega)
  have hi : (k % b.length).toNat < b.length := by omega
  show (L2.atI (bt b).cps.toList (k % b.length)).map _ = _
  rw [bt_cps, atI_in h0 (by rw [List.length_map]; exact h1), List.getElem?_map, List.getElem?_eq_getElem hi]
  unfold onB
  rw [List.getD_eq_getElem?_getD, List.getElem?_eq_getElem hi]
  rfl
theorem ch_eq (b : Bool) : eqD (chD (bc b)) (.str "#") = some (.bool b) := by
  rw [eqD_shp (n := 0) (m := 0) (by cases b <;> decide +kernel) (by decide +kernel)]
  cases b <;> (show some (PyData.bool (_ == _)) = _; congr 2)
theorem encO_shp (z : Option Sp) : shp 1 (encO z) = true := by
  cases z with
  | none => rfl
  | some s => exact encS_shp s
theorem spot_eqO (s : Sp) (z : Option Sp) : eqD (encS s) (encO z) = some (.bool (decide (some s = z))) := by
  rw [eqD_shp (encS_shp s) (encO_shp z)]
  cases z with
  | none => cases s <;> simp [encO, encS, PyData.eqv]
  | some t => simp [encO, encS_eqv]
theorem sees_t {w : Wt} (h : 1 ≤ w.2.length) (z : Option Sp) (k : Int) : m_sees [encW w, encO z, .int k] = .ok (.bool (seesO w z k)) [none, none, none] := by
  have h1 := spot_eqO w.1 z
  have h2 := bt_ix h k
  have h3 := ch_eq (onB w.2 k)
  have h4 := bt_len w.2
  have h5 := modD_int k w.2.length (by omega)
  unfold encW
  have ix0 : ∀ a b : D, ixD (.tuple [a, b]) (.int 0) = some a := fun a b => rfl
  have ix1 : ∀ a b : D, ixD (.tuple [a, b]) (.int 1) = some b := fun a b => rfl
  have e : seesO w z k = (decide (some w.1 = z) && onB w.2 k) := by
    cases z with
    | none => simp [seesO]
    | some s => simp [seesO, seeW]
  rw [e]
  by_cases q : some w.1 = z <;> simp [m_sees, fnM, outE, body_sees, ix0, ix1, h1, q, lenD, derefs, h4, h5, h2, h3]
/-- the numbers of the watchers who see one of some spots -/
def anyS (zs : List (Option Sp)) (k : Int) (w : Wt) : Bool := zs.any fun z => seesO w z k
def sidx (ws : List Wt) (zs : List (Option Sp)) (k : Int) : List Int := (ws.zipIdx.filter fun p => anyS zs k p.1).map fun p => ((p.2 : Nat) : Int)
theorem enum_map {α : Type} (f : α → D) (ws : List α) : enumD (ws.map f) = ws.zipIdx.map fun p => .tuple [.int (p.2 : Nat), f p.1] := by
  refine List.ext_getElem? fun i => ?_
  by_cases h : i < ws.length
  · rw [enumD_at (by rw [List.length_map]; exact h), List.getElem?_map, List.getElem?_zipIdx, List.getElem?_eq_getElem h]
    simp
  · rw [List.getElem?_eq_none (by rw [enumD_len, List.length_map]; omega), List.getElem?_eq_none (by simp; omega)]
theorem anyD_map {α : Type} (f : α → Bool) (l : List α) : anyD [.list (l.map fun d => .bool (f d))] = some (.bool (l.any f)) := by
  have : boolsD (l.map fun d => (.bool (f d) : D)) = some (l.map f) := by
    induction l with
    | nil => rfl
    | cons x l ih => simp [boolsD, ih]
  simp [anyD, this]
theorem seers_t {n : Int} {ps : List (Int × Int)} {ws : List Wt} (hw : ∀ w ∈ ws, WtOk n ps w) (zs : List (Option Sp)) (k : Int) : m_seers [.tuple (ws.map encW), .list (zs.map encO), .int k] = .ok (intsL (sidx ws zs k)) [none, none, none] := by
  have li : ∀ (i : Int) (w : Wt), 1 ≤ w.2.length → lcGo (.nm 5) bYes le_seers_2 [5] (zs.map encO) [some (.tuple (ws.map encW)), some (.list (zs.map encO)), some (.int k), some (.int i), some (encW w), none] = .ok (zs.map fun z => .bool (seesO w z k)) [some (.tuple (ws.map encW)), some (.list (zs.map encO)), some (.int k), some (.int i), some (encW w), none] := fun i w h =>
    lcGo_mapT encO _ zs fun z _ => by
      have c := fun ρ => call3 (ρ := ρ) (sees_t h z k)
      exact ⟨[some (.tuple (ws.map encW)), some (.list (zs.map encO)), some (.int k), some (.int i), some (encW w), some (encO z)], [some (.tuple (ws.map encW)), some (.list (zs.map encO)), some (.int k), some (.int i), some (encW w), some (encO z)], by simp [bindT], by simp [le_seers_2, c], by simp [wipeD]⟩
  have lo : lcGo (.tp [.nm 3, .nm 4]) lt_seers_1 le_seers_1 [3, 4] (ws.zipIdx.map fun p => .tuple [.int (p.2 : Nat), encW p.1]) [some (.tuple (ws.map encW)), some (.list (zs.map encO)), some (.int k), none, none, none] = .ok ((ws.zipIdx.filter fun p => anyS zs k p.1).map fun p => .int (p.2 : Nat)) [some (.tuple (ws.map encW)), some (.list (zs.map encO)), some (.int k), none, none, none] :=
    lcGo_filterT (fun p : Wt × Nat => .tuple [.int (p.2 : Nat), encW p.1]) (fun p => anyS zs k p.1) (fun p => .int (p.2 : Nat)) ws.zipIdx fun p hp => by
      have hm : p.1 ∈ ws := List.fst_mem_of_mem_zipIdx hp
      have l := li p.2 p.1 (hw _ hm).lo
      have a := anyD_map (fun z => seesO p.1 z k) zs
      exact ⟨[some (.tuple (ws.map encW)), some (.list (zs.map encO)), some (.int k), some (.int (p.2 : Nat)), some (encW p.1), none], [some (.tuple (ws.map encW)), some (.list (zs.map encO)), some (.int k), some (.int (p.2 : Nat)), some (encW p.1), none], by simp [bindT, bindTs], by simp [lt_seers_1, itemsD, wipeD, l, resD, derefs, a, boolD, anyS], fun _ => by simp [wipeD], fun _ => ⟨[some (.tuple (ws.map encW)), some (.list (zs.map encO)), some (.int k), some (.int (p.2 : Nat)), some (encW p.1), none], by simp [le_seers_1], by simp [wipeD]⟩⟩
  have en := enum_map encW ws
  simp [m_seers, fnM, outE, body_seers, enumItems, en, wipeD, lo, resD, sidx, List.map_map, Function.comp_def]
theorem sidx_len (ws : List Wt) (zs : List (Option Sp)) (k : Int) : (sidx ws zs k).length = ws.countP (anyS zs k) := by
  have : ∀ (l : List Wt) (j : Nat), ((l.zipIdx j).filter fun p => anyS zs k p.1).length = l.countP (anyS zs k) := by
    intro l
    induction l with
    | nil => intro j; rfl
    | cons w l ih =>
      intro j
      rw [List.zipIdx_cons, List.filter_cons, List.countP_cons]
      cases anyS zs k w <;> simp [ih]
  rw [sidx, List.length_map]
  exact this ws 0
theorem sidx_nil (ws : List Wt) (zs : List (Option Sp)) (k : Int) : (sidx ws zs k).isEmpty = !ws.any (anyS zs k) := by
  have h := sidx_len ws zs k
  cases e : ws.any (anyS zs k) with
  | true =>
    have : 0 < ws.countP (anyS zs k) := by
      obtain ⟨w, hw, h⟩ := List.any_eq_true.mp e
      exact List.countP_pos_iff.mpr ⟨w, hw, h⟩
    cases q : sidx ws zs k with
    | nil => rw [q] at h; simp at h; omega
    | cons _ _ => rfl
  | false =>
    have : ws.countP (anyS zs k) = 0 := List.countP_eq_zero.mpr fun w hw => by
      have := List.any_eq_false.mp e w hw
      simpa using this
    rw [this] at h
    rw [List.eq_nil_of_length_eq_zero h]; rfl
/-! ### a step -/
def doorO (a b : Int) : Option Sp := if a = b then none else some (.dr (min a b) (max a b))
theorem door_of_t (a b : Int) : m_door_of [.int a, .int b] = .ok (encO (doorO a b)) [none, none] := by
  unfold doorO
  by_cases h : a = b
  · simp [m_door_of, fnM, outE, body_door_of, neD_int, boolD, h, encO]
  · simp [m_door_of, fnM, outE, body_door_of, neD_int, boolD, h, encO, encS, min2D, max2D, derefs, valsOf, lim]
/-- whether some watcher sees a spot -/
def seen (ws : List Wt) (z : Option Sp) (k : Int) : Bool := ws.any fun w => seesO w z k
def stp (ws : List Wt) (a b k : Int) : Bool := !seen ws (doorO a b) k && !seen ws (some (.rm b)) (k + 1)
theorem sidx1 (ws : List Wt) (z : Option Sp) (k : Int) : (sidx ws [z] k).isEmpty = !seen ws z k := by
  rw [sidx_nil]
  have : anyS [z] k = fun w => seesO w z k := funext fun w => by simp [anyS]
  rw [this]; rfl
theorem ints_shp (l : List Int) : shp 1 (intsL l) = true := by
  rw [intsL, shp]
  exact shpAll_iff.mpr fun d hd => by
    obtain ⟨x, _, rfl⟩ := List.mem_map.mp hd
    rfl
theorem eq_nil (l : List Int) : eqD (intsL l) (.list []) = some (.bool l.isEmpty) := by
  rw [eqD_shp (ints_shp l) (show shp 1 (.list []) = true from rfl)]
  cases l <;> rfl
theorem ne_nil (l : List Int) : neD (intsL l) (.list []) = some (.bool !l.isEmpty) := by
  rw [neD_shp (ints_shp l) (show shp 1 (.list []) = true from rfl)]
  cases l <;> rfl
theorem steps_t {n : Int} {ps : List (Int × Int)} (h : HsOk n ps) {ws : List Wt} (hw : ∀ w ∈ ws, WtOk n ps w) {r : Int} (hr : 0 ≤ r ∧ r < n) (k : Int) : m_steps_from [hous n ps, .tuple (ws.map encW), .int r, .int k] = .ok (intsL ((nx n ps r).filter fun o => stp ws r o k)) [none, none, none, none] := by
  have cb := fun ρ => call2 (ρ := ρ) (beside_t h r)
  have hnb := (nb_perm h r).length_eq
  have hnl := nbl_len (ps := ps) r
  have hps := h.ln
  have so := sort_ints (nx_perm h hr) (up_le (nx_up n ps r))
  rw [List.map_append] at so
  obtain ⟨ρ', e, x, rfl⟩ := forGo_pre (T := .nm 5) (body := fb_steps_from_1) PyData.int (fun pre ρ => ∃ x, ρ = [some (hous n ps), some (.tuple (ws.map encW)), some (.int r), some (.int k), some (intsL (pre.filter fun o => stp ws r o k)), x]) (nx n ps r) [] [some (hous n ps), some (.tuple (ws.map encW)), some (.int r), some (.int k), some (.list []), none] ⟨none, rfl⟩ (by
    rintro p o q ρ hp ⟨x, rfl⟩
    have c1 := fun ρ => call2 (ρ := ρ) (door_of_t r o)
    have c2 := fun ρ => call3 (ρ := ρ) (seers_t hw [doorO r o] k)
    have c3 := fun ρ => call3 (ρ := ρ) (seers_t hw [some (.rm o)] (k + 1))
    have hlen : (p.filter fun o => stp ws r o k).length < lim := by
      have h1 := List.length_filter_le (fun o => stp ws r o k) p
      have h2 : (nx n ps r).length = p.length + (q.length + 1) := by rw [show nx n ps r = p ++ o :: q from hp]; simp
      have h3 : (nx n ps r).length = (nb n ps r).length + 1 := by rw [(nx_perm h hr).length_eq]; simp
      show _ < 1000000
      omega
    have e1 := eq_nil (sidx ws [doorO r o] k)
    have e2 := eq_nil (sidx ws [some (.rm o)] (k + 1))
    rw [sidx1] at e1 e2
    simp only [List.map_cons, List.map_nil] at c2 c3
    have c3' : ∀ ρ, callM 3 none m_seers [.val (.tuple (ws.map encW)), .val (.list [.tuple [.str "room", .int o]]), .val (.int (k + 1))] ρ = .ok (intsL (sidx ws [some (.rm o)] (k + 1))) ρ := c3
    have ad : addD (.int k) (.int 1) = some (.int (k + 1)) := rfl
    refine ⟨[some (hous n ps), some (.tuple (ws.map encW)), some (.int r), some (.int k), some (intsL (p.filter fun o => stp ws r o k)), some (.int o)], [some (hous n ps), some (.tuple (ws.map encW)), some (.int r), some (.int k), some (intsL ((p ++ [o]).filter fun o => stp ws r o k)), some (.int o)], by simp [bindT], .inl ?_, some (.int o), rfl⟩
    rw [List.filter_append]
    have hs : stp ws r o k = (!seen ws (doorO r o) k && !seen ws (some (.rm o)) (k + 1)) := rfl
    cases q1 : seen ws (doorO r o) k <;> cases q2 : seen ws (some (.rm o)) (k + 1) <;> rw [q1, q2] at hs <;> simp [fb_steps_from_1, c1, c2, valsOf, show (1 : Nat) ≤ lim by decide, show (2 : Nat) ≤ lim by decide, e1, e2, q1, q2, boolD, ad, c3', eMut, appD, hlen, hs, show (p.filter fun o => stp ws r o k).length + 1 ≤ lim from hlen])
  have e' : forGo (.nm 5) fb_steps_from_1 ((nx n ps r).map .int) [some (hous n ps), some (.tuple (ws.map encW)), some (.int r), some (.int k), some (.list []), none] = .nx [some (hous n ps), some (.tuple (ws.map encW)), some (.int r), some (.int k), some (intsL ((nx n ps r).filter fun o => stp ws r o k)), x] := e
  have ad : addD (intsL (nb n ps r)) (.list [.int r]) = some (.list ((nb n ps r).map .int ++ [.int r])) := addL (by rw [List.length_map]; show _ ≤ 1000000; simp; omega)
  simp only [List.map_cons, List.map_nil] at so
  simp [m_steps_from, fnM, outE, body_steps_from, valsOf, lim, cb, ad, derefs, so, itemsD, e', eMov]
end U

set_option maxRecDepth 100000
set_option linter.all false
set_option maxHeartbeats 4000000
namespace U
open PySem PySem.Spec PyProof.Rows L2 RZ PD
open PySem.W (dataLt alike alikeAll keyToks keyToksAll)
/-! ### the law's own: how often a step, a way is seen; all ways -/
def cnt (ws : List Wt) (z : Sp) (k : Int) : Nat := ws.countP fun w => seeW w z k
theorem law_sees_t {n : Int} {ps : List (Int × Int)} {ws : List Wt} (hw : ∀ w ∈ ws, WtOk n ps w) (z : Sp) (k : Int) : m__law_sees [.tuple (ws.map encW), encS z, .int k] = .ok (.int (cnt ws z k)) [none, none, none] := by
  have lc : lcGo (.tp [.nm 3, .nm 4]) lt__law_sees_1 le__law_sees_1 [3, 4] (ws.map encW) [some (.tuple (ws.map encW)), some (encS z), some (.int k), none, none] = .ok ((ws.filter fun w => seeW w z k).map fun w => .str (bt w.2)) [some (.tuple (ws.map encW)), some (encS z), some (.int k), none, none] :=
    lcGo_filterT encW (fun w => seeW w z k) (fun w => .str (bt w.2)) ws fun w hm => by
      have h1 : eqD (encS w.1) (encS z) = some (.bool (decide (w.1 = z))) := by
        rw [eqD_shp (encS_shp _) (encS_shp _), encS_eqv]
      have h2 := bt_ix (hw w hm).lo k
      have h3 := ch_eq (onB w.2 k)
      have h4 := bt_len w.2
      have h5 := modD_int k w.2.length (by have := (hw w hm).lo; omega)
      refine ⟨[some (.tuple (ws.map encW)), some (encS z), some (.int k), some (encS w.1), some (.str (bt w.2))], [some (.tuple (ws.map encW)), some (encS z), some (.int k), some (encS w.1), some (.str (bt w.2))], by simp [bindT, bindTs, encW], ?_, fun _ => by simp [wipeD], fun _ => ⟨[some (.tuple (ws.map encW)), some (encS z), some (.int k), some (encS w.1), some (.str (bt w.2))], by simp [le__law_sees_1], by simp [wipeD]⟩⟩
      cases q : decide (w.1 = z) <;> rw [q] at h1 <;> simp [lt__law_sees_1, h1, q, boolD, lenD, derefs, h4, h5, h2, h3, seeW]
  simp [m__law_sees, fnM, outE, body__law_sees, itemsD, wipeD, lc, resD, derefs, lenD, cnt, List.countP_eq_length_filter]
def lawdoor (a b : Int) : Sp := .dr (min a b) (max a b)
theorem law_door_t (a b : Int) : m__law_door [.int a, .int b] = .ok (encS (lawdoor a b)) [none, none] := by
  simp [m__law_door, fnM, outE, body__law_door, min2D, max2D, derefs, valsOf, lim, encS, lawdoor]
/-- how often a step is seen -/
def stc (ws : List Wt) (a b k : Int) : Nat := cnt ws (lawdoor a b) k + cnt ws (.rm b) (k + 1)
theorem law_step_t {n : Int} {ps : List (Int × Int)} {ws : List Wt} (hw : ∀ w ∈ ws, WtOk n ps w) (a b k : Int) : m__law_step [.tuple (ws.map encW), .int a, .int b, .int k] = .ok (.int (stc ws a b k)) [none, none, none, none] := by
  have c1 := fun ρ => call2 (ρ := ρ) (law_door_t a b)
  have c2 := fun ρ => call3 (ρ := ρ) (law_sees_t hw (lawdoor a b) k)
  have c3 : ∀ ρ, callM 3 none m__law_sees [.val (.tuple (ws.map encW)), .val (.tuple [.str "room", .int b]), .val (.int (k + 1))] ρ = .ok (.int (cnt ws (.rm b) (k + 1))) ρ := fun ρ => call3 (ρ := ρ) (law_sees_t hw (.rm b) (k + 1))
  have ad : addD (.int k) (.int 1) = some (.int (k + 1)) := rfl
  have ad2 : ∀ x y : Int, addD (.int x) (.int y) = some (.int (x + y)) := fun _ _ => rfl
  simp [m__law_step, fnM, outE, body__law_step, c1, c2, valsOf, lim, ad, c3, ad2, stc]
theorem cnt_zero {ws : List Wt} {z : Sp} {k : Int} : cnt ws z k = 0 ↔ seen ws (some z) k = false := by
  unfold cnt seen
  rw [List.countP_eq_zero, List.any_eq_false]
  simp [seesO]
theorem cnt_same {n : Int} {ps : List (Int × Int)} (h : HsOk n ps) {ws : List Wt} (hw : ∀ w ∈ ws, WtOk n ps w) (a k : Int) : cnt ws (lawdoor a a) k = 0 := by
  unfold cnt lawdoor
  rw [List.countP_eq_zero]
  intro w hm e
  simp only [seeW, Bool.and_eq_true, decide_eq_true_eq] at e
  have := (hw w hm).sp
  rw [e.1] at this
  have := h.dr _ this
  simp at this
theorem stp_stc {n : Int} {ps : List (Int × Int)} (h : HsOk n ps) {ws : List Wt} (hw : ∀ w ∈ ws, WtOk n ps w) (a b k : Int) : stp ws a b k = decide (stc ws a b k = 0) := by
  have e : seen ws (doorO a b) k = !decide (cnt ws (lawdoor a b) k = 0) := by
    unfold doorO
    by_cases q : a = b
    · subst q
      rw [if_pos rfl, cnt_same h hw]
      simp [seen, seesO]
    · rw [if_neg q]
      cases q : seen ws (some (.dr (min a b) (max a b))) k with
      | true =>
        have : ¬ cnt ws (lawdoor a b) k = 0 := fun z => by rw [cnt_zero] at z; rw [lawdoor, q] at z; cases z
        simp [this]
      | false => rw [show cnt ws (lawdoor a b) k = 0 from cnt_zero.mpr q]; rfl
  have e2 : seen ws (some (.rm b)) (k + 1) = !decide (cnt ws (.rm b) (k + 1) = 0) := by
    cases q : seen ws (some (.rm b)) (k + 1) with
    | true =>
      have : ¬ cnt ws (.rm b) (k + 1) = 0 := fun z => by rw [cnt_zero, q] at z; cases z
      simp [this]
    | false => rw [cnt_zero.mpr q]; rfl
  unfold stp stc
  rw [e, e2, Bool.not_not, Bool.not_not, ← Bool.decide_and]
  congr 1
  rw [Nat.add_eq_zero_iff]
/-! ### ways -/
abbrev wayD (w : List Int) : D := .tuple (w.map .int)
def often (ws : List Wt) (w : List Int) : Nat := ((List.range (w.length - 1)).map fun i => stc ws (w.getD i 0) (w.getD (i + 1) 0) (i : Nat)).sum
theorem intsD_map {α : Type} (f : α → Int) : ∀ l : List α, intsD (l.map fun x => .int (f x)) = some (l.map f)
  | [] => rfl
  | x :: l => by simp [intsD, intsD_map f l]
theorem sum_cast {α : Type} (f : α → Nat) : ∀ l : List α, (l.map fun x => ((f x : Nat) : Int)).sum = ((l.map f).sum : Nat)
  | [] => rfl
  | x :: l => by simp [sum_cast f l]
theorem sumD_nats {α : Type} (f : α → Nat) (l : List α) : sumD [.list (l.map fun x => .int (f x : Nat))] = some (.int ((l.map f).sum : Nat)) := by
  show (intsD _).map _ = _
  rw [intsD_map (fun x => ((f x : Nat) : Int)), Option.map_some, sum_cast]
theorem law_often_t {n : Int} {ps : List (Int × Int)} {ws : List Wt} (hw : ∀ w ∈ ws, WtOk n ps w) (w : List Int) (h1 : 1 ≤ w.length) (h2 : w.length ≤ 100) : m__law_often [.tuple (ws.map encW), wayD w] = .ok (.int (often ws w)) [none, none] := by
  have lc : lcGo (.nm 2) bYes le__law_often_1 [2] (rgD 0 ((w.length : Int) - 1)) [some (.tuple (ws.map encW)), some (wayD w), none] = .ok ((List.range (w.length - 1)).map fun i => .int (stc ws (w.getD i 0) (w.getD (i + 1) 0) (i : Nat))) [some (.tuple (ws.map encW)), some (wayD w), none] := by
    unfold rgD
    rw [show ((w.length : Int) - 1 - 0).toNat = w.length - 1 by omega]
    refine lcGo_mapT (fun i : Nat => PyData.int (0 + (i : Nat))) _ _ fun i hi => ?_
    rw [List.mem_range] at hi
    have c := fun ρ => call4 (ρ := ρ) (law_step_t hw (w.getD i 0) (w.getD (i + 1) 0) (0 + (i : Nat)))
    have a1 : ixD (wayD w) (.int (0 + (i : Nat))) = some (.int (w.getD i 0)) := by
      show L2.atI (w.map PyData.int) _ = _
      rw [atI_in (by omega) (by rw [List.length_map]; omega), List.getElem?_map, show (0 + ((i : Nat) : Int)).toNat = i by omega, List.getElem?_eq_getElem (by omega)]
      simp [List.getD_eq_getElem?_getD, List.getElem?_eq_getElem (show i < w.length by omega)]
    have a2 : ixD (wayD w) (.int (0 + (i : Nat) + 1)) = some (.int (w.getD (i + 1) 0)) := by
      show L2.atI (w.map PyData.int) _ = _
      rw [atI_in (by omega) (by rw [List.length_map]; omega), List.getElem?_map, show (0 + ((i : Nat) : Int) + 1).toNat = i + 1 by omega, List.getElem?_eq_getElem (by omega)]
      simp [List.getD_eq_getElem?_getD, List.getElem?_eq_getElem (show i + 1 < w.length by omega)]
    have ad : addD (.int (0 + (i : Nat))) (.int 1) = some (.int (0 + (i : Nat) + 1)) := rfl
    refine ⟨[some (.tuple (ws.map encW)), some (wayD w), some (.int (0 + (i : Nat)))], [some (.tuple (ws.map encW)), some (wayD w), some (.int (0 + (i : Nat)))], by simp [bindT], ?_, by simp [wipeD]⟩
    have e0 : (0 : Int) + (i : Nat) = (i : Nat) := by omega
    rw [e0] at c a1 a2 ad ⊢
    simp [-List.getD_eq_getElem?_getD, le__law_often_1, a1, a2, ad, c]
  have rg := rgI_ok (a := 0) (b := (w.length : Int) - 1) (by omega) (by omega)
  have sb : subD (.int (w.length : Nat)) (.int 1) = some (.int ((w.length : Int) - 1)) := rfl
  have sm := sumD_nats (fun i : Nat => stc ws (w.getD i 0) (w.getD (i + 1) 0) (i : Nat)) (List.range (w.length - 1))
  simp [-List.getD_eq_getElem?_getD, m__law_often, fnM, outE, body__law_often, lenD, derefs, sb, rg, wipeD, lc, resD, sm, often]
end U

set_option maxRecDepth 100000
set_option linter.all false
set_option maxHeartbeats 4000000
namespace U
open PySem PySem.Spec PyProof.Rows L2 RZ PD
open PySem.W (dataLt alike alikeAll keyToks keyToksAll)
/-! ### all ways, and those that nobody sees -/
def lst (w : List Int) : Int := w.getLastD 0
def ways (n : Int) (ps : List (Int × Int)) : Nat → List (List Int)
  | 0 => [[0]]
  | k + 1 => (ways n ps k).flatMap fun w => (nx n ps (lst w)).map fun o => w ++ [o]
def gw (n : Int) (ps : List (Int × Int)) (ws : List Wt) : Nat → List (List Int)
  | 0 => [[0]]
  | k + 1 => (gw n ps ws k).flatMap fun w => ((nx n ps (lst w)).filter fun o => stp ws (lst w) o (k : Nat)).map fun o => w ++ [o]
theorem lst_snoc (w : List Int) (o : Int) : lst (w ++ [o]) = o := by simp [lst]
theorem nx_rooms {n : Int} {ps : List (Int × Int)} {r x : Int} (h : x ∈ nx n ps r) : 0 ≤ x ∧ x < n := (mem_nx.mp h).1
theorem ways_ok {n : Int} {ps : List (Int × Int)} (hn : 0 < n) : ∀ (k : Nat) {w : List Int}, w ∈ ways n ps k → w.length = k + 1 ∧ (0 ≤ lst w ∧ lst w < n)
  | 0, w, h => by
    rw [ways, List.mem_singleton] at h
    subst h
    exact ⟨rfl, by simp [lst]; omega⟩
  | k + 1, w, h => by
    rw [ways, List.mem_flatMap] at h
    obtain ⟨v, hv, h⟩ := h
    obtain ⟨o, ho, rfl⟩ := List.mem_map.mp h
    have := (ways_ok hn k hv).1
    exact ⟨by simp [this], by rw [lst_snoc]; exact nx_rooms ho⟩
theorem nx_len {n : Int} {ps : List (Int × Int)} (hn : n ≤ 10) (r : Int) : (nx n ps r).length ≤ 10 := by
  have h1 : (nx n ps r).length ≤ (rooms n).length := List.length_filter_le _ _
  have h2 : (rooms n).length = n.toNat := by simp [rooms]
  omega
theorem flatMap_len {α β : Type} (f : α → List β) (m : Nat) : ∀ (l : List α), (∀ x ∈ l, (f x).length ≤ m) → (l.flatMap f).length ≤ l.length * m
  | [], _ => by simp
  | x :: l, h => by
    rw [List.flatMap_cons, List.length_append, List.length_cons, Nat.succ_mul]
    have h1 := h x List.mem_cons_self
    have h2 := flatMap_len f m l fun y hy => h y (List.mem_cons_of_mem _ hy)
    omega
theorem ways_len {n : Int} {ps : List (Int × Int)} (hn : n ≤ 10) : ∀ k : Nat, (ways n ps k).length ≤ 10 ^ k
  | 0 => by simp [ways]
  | k + 1 => by
    rw [ways, Nat.pow_succ]
    refine Nat.le_trans (flatMap_len _ 10 _ fun w _ => by rw [List.length_map]; exact nx_len hn _) (Nat.mul_le_mul_right _ (ways_len hn k))
theorem often_snoc (ws : List Wt) (w : List Int) (o : Int) (hw : w ≠ []) : often ws (w ++ [o]) = often ws w + stc ws (lst w) o ((w.length : Int) - 1) := by
  obtain ⟨m, hm⟩ : ∃ m, w.length = m + 1 := by
    cases w with
    | nil => exact absurd rfl hw
    | cons _ t => exact ⟨t.length, rfl⟩
  unfold often
  rw [List.length_append, hm, show m + 1 + [o].length - 1 = m + 1 from rfl, show m + 1 - 1 = m from rfl, List.range_succ, List.map_append, List.sum_append]
  congr 1
  · congr 1
    refine List.map_congr_left fun i hi => ?_
    rw [List.mem_range] at hi
    simp only [List.getD_eq_getElem?_getD]
    rw [List.getElem?_append_left (by omega), List.getElem?_append_left (by omega)]
  · rw [List.map_singleton, List.sum_singleton]
    have e1 : (w ++ [o]).getD m 0 = lst w := by
      rw [List.getD_eq_getElem?_getD, List.getElem?_append_left (by omega)]
      unfold lst
      rw [List.getLastD_eq_getLast?, List.getLast?_eq_getElem?, hm]
      rfl
    have e2 : (w ++ [o]).getD (m + 1) 0 = o := by
      rw [List.getD_eq_getElem?_getD, List.getElem?_append_right (by omega), hm]
      simp
    rw [e1, e2]
    congr 1
    omega
theorem flatMap_cong {α β : Type} {f g : α → List β} : ∀ {l : List α}, (∀ x ∈ l, f x = g x) → l.flatMap f = l.flatMap g
  | [], _ => rfl
  | x :: l, h => by rw [List.flatMap_cons, List.flatMap_cons, h x List.mem_cons_self, flatMap_cong fun y hy => h y (List.mem_cons_of_mem _ hy)]
theorem flatMap_filt {α β : Type} (p : α → Bool) (f : α → List β) : ∀ l : List α, (l.filter p).flatMap f = l.flatMap fun x => if p x = true then f x else []
  | [] => rfl
  | x :: l => by
    rw [List.filter_cons, List.flatMap_cons, ← flatMap_filt p f l]
    cases p x <;> simp
theorem rgD0 (k : Nat) : rgD 0 (k : Int) = (List.range k).map fun i => PyData.int ((i : Nat) : Int) := by
  unfold rgD
  have : ((k : Int) - 0).toNat = k := by omega
  rw [this]
  exact List.map_congr_left fun i _ => by rw [Int.zero_add]
theorem gw_filter {n : Int} {ps : List (Int × Int)} (h : HsOk n ps) {ws : List Wt} (hw : ∀ w ∈ ws, WtOk n ps w) : ∀ k : Nat, (ways n ps k).filter (fun w => decide (often ws w = 0)) = gw n ps ws k
  | 0 => by simp [ways, gw, often]
  | k + 1 => by
    rw [ways, gw, ← gw_filter h hw k, List.filter_flatMap, flatMap_filt]
    refine flatMap_cong fun w hm => ?_
    have hl := (ways_ok (by have := h.lo; omega) k hm).1
    have hne : w ≠ [] := fun e => by rw [e] at hl; simp at hl
    rw [List.filter_map]
    have e : ∀ o, ((fun w => decide (often ws w = 0)) ∘ fun o => w ++ [o]) o = (decide (often ws w = 0) && stp ws (lst w) o (k : Nat)) := fun o => by
      show decide (often ws (w ++ [o]) = 0) = _
      rw [often_snoc ws w o hne, stp_stc h hw, show ((w.length : Int) - 1) = (k : Nat) by omega, ← Bool.decide_and]
      congr 1
      rw [Nat.add_eq_zero_iff]
    by_cases q : often ws w = 0
    · rw [show decide (often ws w = 0) = true by simp [q]] at e ⊢
      rw [if_pos rfl]
      congr 1
      exact List.filter_congr fun o _ => by rw [e, Bool.true_and]
    · rw [show decide (often ws w = 0) = false by simp [q]] at e ⊢
      rw [if_neg (by simp), List.filter_eq_nil_iff.mpr fun o _ => by rw [e, Bool.false_and]; simp]
      rfl
theorem gw_ways {n : Int} {ps : List (Int × Int)} {ws : List Wt} : ∀ {k : Nat} {w : List Int}, w ∈ gw n ps ws k → w ∈ ways n ps k
  | 0, w, h => h
  | k + 1, w, h => by
    rw [gw, List.mem_flatMap] at h
    obtain ⟨v, hv, h⟩ := h
    obtain ⟨o, ho, rfl⟩ := List.mem_map.mp h
    rw [ways, List.mem_flatMap]
    exact ⟨v, gw_ways hv, List.mem_map.mpr ⟨o, (List.mem_filter.mp ho).1, rfl⟩⟩
/-! ### the law's list of ways -/
theorem way_last {w : List Int} (h : w ≠ []) : ixD (wayD w) (.int (-1)) = some (.int (lst w)) := by
  show L2.atI (w.map PyData.int) (-1) = _
  obtain ⟨u, o, rfl⟩ : ∃ u o, w = u ++ [o] := ⟨w.dropLast, w.getLast h, (List.dropLast_concat_getLast h).symm⟩
  rw [List.map_append, lst_snoc]
  exact L2.atI_last _ _
theorem way_snoc {w : List Int} (o : Int) (h : w.length ≤ 1000) : addD (wayD w) (.tuple [.int o]) = some (wayD (w ++ [o])) := by
  rw [addT (by rw [List.length_map]; show _ ≤ 1000000; simp; omega), wayD, List.map_append]; rfl
theorem law_ways_in {n : Int} {ps : List (Int × Int)} (h : HsOk n ps) (k : Nat) (hk : k ≤ 4) (m kk : Option D) (x y : Option D) : ∃ x' y', forGo (.nm 5) fb__law_ways_2 ((ways n ps k).map wayD) [some (hous n ps), m, some (.list ((ways n ps k).map wayD)), kk, some (.list []), x, y] = .nx [some (hous n ps), m, some (.list ((ways n ps k).map wayD)), kk, some (.list ((ways n ps (k + 1)).map wayD)), x', y'] := by
  have hn : 0 < n := by have := h.lo; omega
  obtain ⟨ρ', e, x', y', rfl⟩ := forGo_pre (T := .nm 5) (body := fb__law_ways_2) wayD (fun pre ρ => ∃ x y, ρ = [some (hous n ps), m, some (.list ((ways n ps k).map wayD)), kk, some (.list ((pre.flatMap fun w => (nx n ps (lst w)).map fun o => w ++ [o]).map wayD)), x, y]) (ways n ps k) [] [some (hous n ps), m, some (.list ((ways n ps k).map wayD)), kk, some (.list []), x, y] ⟨x, y, rfl⟩ (by
    rintro p w q ρ hp ⟨x, y, rfl⟩
    have hm : w ∈ ways n ps k := by rw [show ways n ps k = p ++ w :: q from hp]; simp
    obtain ⟨hl, hr⟩ := ways_ok hn k hm
    have hne : w ≠ [] := fun e => by rw [e] at hl; simp at hl
    have cb := fun ρ => call2 (ρ := ρ) (law_beside_t h hr)
    have ix := way_last hne
    have lc : ∀ L : Option D, lcGo (.nm 6) bYes le__law_ways_3 [6] ((nx n ps (lst w)).map .int) [some (hous n ps), m, some (.list ((ways n ps k).map wayD)), kk, L, some (wayD w), none] = .ok ((nx n ps (lst w)).map fun o => wayD (w ++ [o])) [some (hous n ps), m, some (.list ((ways n ps k).map wayD)), kk, L, some (wayD w), none] := fun L =>
      lcGo_mapT PyData.int (fun o => wayD (w ++ [o])) _ fun o _ => ⟨[some (hous n ps), m, some (.list ((ways n ps k).map wayD)), kk, L, some (wayD w), some (.int o)], [some (hous n ps), m, some (.list ((ways n ps k).map wayD)), kk, L, some (wayD w), some (.int o)], by simp [bindT], by simp [le__law_ways_3, valsOf, lim, way_snoc o (show w.length ≤ 1000 by omega)], by simp [wipeD]⟩
    have b1 : ((p ++ [w]).flatMap fun w => (nx n ps (lst w)).map fun o => w ++ [o]).length ≤ lim := by
      refine Nat.le_trans (flatMap_len _ 10 _ fun w _ => by rw [List.length_map]; exact nx_len h.hi _) ?_
      have h1 := ways_len (ps := ps) h.hi k
      have h2 : (p ++ [w]).length ≤ (ways n ps k).length := by rw [show ways n ps k = p ++ w :: q from hp]; simp
      have h3 : 10 ^ k ≤ 10 ^ 4 := Nat.pow_le_pow_right (by decide) hk
      show _ ≤ 1000000
      omega
    have ea : (p ++ [w]).flatMap (fun w => (nx n ps (lst w)).map fun o => w ++ [o]) = p.flatMap (fun w => (nx n ps (lst w)).map fun o => w ++ [o]) ++ (nx n ps (lst w)).map fun o => w ++ [o] := by rw [List.flatMap_append, List.flatMap_singleton]
    rw [ea] at b1 ⊢
    generalize p.flatMap (fun w => (nx n ps (lst w)).map fun o => w ++ [o]) = acc at b1 ⊢
    rw [List.length_append, List.length_map] at b1
    refine ⟨[some (hous n ps), m, some (.list ((ways n ps k).map wayD)), kk, some (.list (acc.map wayD)), some (wayD w), y], [some (hous n ps), m, some (.list ((ways n ps k).map wayD)), kk, some (.list ((acc ++ (nx n ps (lst w)).map fun o => w ++ [o]).map wayD)), some (wayD w), y], by simp [bindT], .inl ?_, some (wayD w), y, rfl⟩
    simp [fb__law_ways_2, eMut, ix, cb, itemsD, wipeD, lc, resD, valsOf, show (1 : Nat) ≤ lim by decide, extD, negD, b1, Function.comp_def])
  exact ⟨x', y', by rw [ways]; exact e⟩
theorem sub1 (k : Int) : subD (.int (k + 1)) (.int 1) = some (.int k) := by
  have : k + 1 - 1 = k := by omega
  show some (PyData.int (k + 1 - 1)) = _
  rw [this]
theorem law_ways_t {n : Int} {ps : List (Int × Int)} (h : HsOk n ps) (k : Nat) (hk : k ≤ 5) : m__law_ways [hous n ps, .int ((k : Nat) + 1)] = .ok (.list ((ways n ps k).map wayD)) [none, none] := by
  obtain ⟨ρ', e, kk, l, x, y, rfl⟩ := forGo_pre (T := .nm 3) (body := fb__law_ways_1) (fun i : Nat => PyData.int ((i : Nat) : Int)) (fun pre ρ => ∃ kk l x y, ρ = [some (hous n ps), some (.int ((k : Nat) + 1)), some (.list ((ways n ps pre.length).map wayD)), kk, l, x, y]) (List.range k) [] [some (hous n ps), some (.int ((k : Nat) + 1)), some (.list [.tuple [.int 0]]), none, none, none, none] ⟨none, none, none, none, rfl⟩ (by
    rintro p i q ρ hp ⟨kk, l, x, y, rfl⟩
    have hlen : p.length < k := by
      have := congrArg List.length hp
      simp at this
      omega
    obtain ⟨x', y', e⟩ := law_ways_in h p.length (by omega) (some (.int ((k : Nat) + 1))) (some (.int ((i : Nat) : Int))) x y
    refine ⟨[some (hous n ps), some (.int ((k : Nat) + 1)), some (.list ((ways n ps p.length).map wayD)), some (.int ((i : Nat) : Int)), l, x, y], [some (hous n ps), some (.int ((k : Nat) + 1)), some (.list ((ways n ps (p.length + 1)).map wayD)), some (.int ((i : Nat) : Int)), none, x', y'], by simp [bindT], .inl ?_, some (.int ((i : Nat) : Int)), none, x', y', by simp⟩
    simp [fb__law_ways_1, valsOf, lim, itemsD, e, eMov])
  have rg := rgI_ok (a := 0) (b := (k : Int)) (by omega) (by omega)
  have sb : subD (.int ((k : Nat) + 1)) (.int 1) = some (.int (k : Nat)) := sub1 k
  have e' : forGo (.nm 3) fb__law_ways_1 (rgD 0 (k : Nat)) [some (hous n ps), some (.int ((k : Nat) + 1)), some (.list [.tuple [.int 0]]), none, none, none, none] = .nx [some (hous n ps), some (.int ((k : Nat) + 1)), some (.list ((ways n ps k).map wayD)), kk, l, x, y] := by
    rw [rgD0, e]
    simp
  simp [m__law_ways, fnM, outE, body__law_ways, valsOf, lim, sb, rg, e']
end U

set_option maxRecDepth 100000
set_option linter.all false
set_option maxHeartbeats 4000000
namespace U
open PySem PySem.Spec PyProof.Rows L2 RZ PD
open PySem.W (dataLt alike alikeAll keyToks keyToksAll)
/-! ### dicts, typed -/
section
variable {α β : Type} [DecidableEq α]
def lookA (l : List (α × β)) (k : α) : Option β := (l.find? fun p => decide (p.1 = k)).map (·.2)
def putA (l : List (α × β)) (k : α) (v : β) : List (α × β) := if (lookA l k).isSome = true then l.map (fun p => if p.1 = k then (p.1, v) else p) else l ++ [(k, v)]
abbrev dictD (enc : α → D) (f : β → D) (l : List (α × β)) : List (D × D) := l.map fun p => (enc p.1, f p.2)
theorem lookA_nil {k : α} : lookA ([] : List (α × β)) k = none := rfl
theorem lookA_cons {p : α × β} {l : List (α × β)} {k : α} : lookA (p :: l) k = if p.1 = k then some p.2 else lookA l k := by
  unfold lookA
  rw [List.find?_cons]
  by_cases h : p.1 = k <;> simp [h]
theorem lookD_enc {enc : α → D} (inj : ∀ a b, nkey (enc a) = nkey (enc b) → a = b) (f : β → D) (k : α) : ∀ l : List (α × β), lookD (dictD enc f l) (enc k) = (lookA l k).map f
  | [] => rfl
  | p :: l => by
    rw [dictD, List.map_cons, lookA_cons]
    by_cases h : p.1 = k
    · rw [if_pos h, lookD_pos (show nkey (enc p.1) = nkey (enc k) by rw [h])]; rfl
    · rw [if_neg h, lookD_neg (show ¬ nkey (enc p.1) = nkey (enc k) from fun e => h (inj _ _ e))]
      exact lookD_enc inj f k l
theorem putD_enc {enc : α → D} (inj : ∀ a b, nkey (enc a) = nkey (enc b) → a = b) (f : β → D) (k : α) (v : β) (l : List (α × β)) : putD (dictD enc f l) (enc k) (f v) = dictD enc f (putA l k v) := by
  unfold putD putA
  rw [lookD_enc inj]
  cases h : lookA l k with
  | none => simp [dictD]
  | some x =>
    simp only [Option.map_some, Option.isSome_some, if_true, dictD, List.map_map]
    refine List.map_congr_left fun p _ => ?_
    show (if nkey (enc p.1) = nkey (enc k) then (enc p.1, f v) else (enc p.1, f p.2)) = _
    by_cases q : p.1 = k
    · rw [if_pos (by rw [q])]; simp [q]
    · rw [if_neg fun e => q (inj _ _ e)]; simp [q]
theorem lookA_append {l m : List (α × β)} {k : α} : lookA (l ++ m) k = (lookA l k).or (lookA m k) := by
  induction l with
  | nil => rfl
  | cons p l ih =>
    rw [List.cons_append, lookA_cons, lookA_cons, ih]
    by_cases h : p.1 = k <;> simp [h]
theorem lookA_map (l : List (α × β)) (k j : α) (v : β) : lookA (l.map fun p => if p.1 = k then (p.1, v) else p) j = if j = k then (lookA l k).map (fun _ => v) else lookA l j := by
  induction l with
  | nil => by_cases q : j = k <;> simp [q, lookA_nil]
  | cons p l ih =>
    rw [List.map_cons, lookA_cons, ih, lookA_cons, lookA_cons]
    by_cases h : p.1 = k
    · rw [if_pos h]
      by_cases q : j = k
      · simp [h, q]
      · have h' : ¬ p.1 = j := fun e => q (e.symm.trans h)
        simp [h', q]
    · rw [if_neg h]
      by_cases q : j = k
      · subst q; simp [h]
      · by_cases h' : p.1 = j <;> simp [h', q, h]
theorem lookA_put (l : List (α × β)) (k j : α) (v : β) : lookA (putA l k v) j = if j = k then some v else lookA l j := by
  unfold putA
  cases h : lookA l k with
  | none =>
    simp only [Option.isSome_none, Bool.false_eq_true, if_false]
    rw [lookA_append, lookA_cons, lookA_nil]
    by_cases q : j = k
    · subst q; simp [h]
    · have q' : ¬ k = j := fun e => q e.symm
      simp [q, q']
  | some x =>
    simp only [Option.isSome_some, if_true]
    rw [lookA_map, h]
    rfl
theorem lookA_some_iff {l : List (α × β)} {k : α} : (lookA l k).isSome = true ↔ k ∈ l.map (·.1) := by
  induction l with
  | nil => simp [lookA_nil]
  | cons p l ih =>
    rw [lookA_cons, List.map_cons, List.mem_cons]
    by_cases h : p.1 = k
    · simp [h]
    · have h' : ¬ k = p.1 := fun e => h e.symm
      simp only [h, if_false, ih, h', false_or]
theorem putA_keys (l : List (α × β)) (k : α) (v : β) : (putA l k v).map (·.1) = if k ∈ l.map (·.1) then l.map (·.1) else l.map (·.1) ++ [k] := by
  unfold putA
  by_cases h : k ∈ l.map (·.1)
  · rw [if_pos (lookA_some_iff.mpr h), if_pos h, List.map_map]
    exact List.map_congr_left fun p _ => by show (if p.1 = k then (p.1, v) else p).1 = p.1; split <;> rfl
  · rw [if_neg fun z => h (lookA_some_iff.mp z), if_neg h, List.map_append]; rfl
theorem putA_nodup {l : List (α × β)} {k : α} {v : β} (h : (l.map (·.1)).Nodup) : ((putA l k v).map (·.1)).Nodup := by
  rw [putA_keys]
  by_cases q : k ∈ l.map (·.1)
  · rw [if_pos q]; exact h
  · rw [if_neg q]
    exact List.nodup_append.mpr ⟨h, by simp, fun a ha b hb e => q (by rw [List.mem_singleton] at hb; rw [← hb, ← e]; exact ha)⟩
theorem putA_sub {l : List (α × β)} {k : α} {v : β} {x : α} (h : x ∈ (putA l k v).map (·.1)) : x = k ∨ x ∈ l.map (·.1) := by
  rw [putA_keys] at h
  by_cases q : k ∈ l.map (·.1)
  · rw [if_pos q] at h; exact .inr h
  · rw [if_neg q, List.mem_append, List.mem_singleton] at h; exact h.symm
theorem lookA_mem {l : List (α × β)} (h : (l.map (·.1)).Nodup) {p : α × β} (hp : p ∈ l) : lookA l p.1 = some p.2 := by
  induction l with
  | nil => simp at hp
  | cons q l ih =>
    rw [List.map_cons, List.nodup_cons] at h
    rw [lookA_cons]
    rcases List.mem_cons.mp hp with rfl | hp
    · rw [if_pos rfl]
    · rw [if_neg fun e : q.1 = p.1 => h.1 (by rw [e]; exact List.mem_map.mpr ⟨p, hp, rfl⟩)]
      exact ih h.2 hp
theorem mem_lookA {l : List (α × β)} {k : α} {v : β} (h : lookA l k = some v) : (k, v) ∈ l := by
  unfold lookA at h
  obtain ⟨p, hp, e⟩ := Option.map_eq_some_iff.mp h
  have h1 := List.find?_some hp
  rw [decide_eq_true_eq] at h1
  have := List.mem_of_find?_eq_some hp
  rw [← h1, ← e]
  exact this
end
/-! #### dicts whose keys are whole numbers -/
theorem ik_inj (a b : Int) (h : nkey (.int a) = nkey (.int b)) : a = b := by simpa [nkey] using h
section
variable {β : Type} {f : β → D} {l : List (Int × β)}
abbrev idict (f : β → D) (l : List (Int × β)) : D := .dict (dictD PyData.int f l)
theorem ik_kind (k : Int) : kindOk (dictD PyData.int f l) (.int k) = true := by simp [kindOk, simpleK, dictD]
theorem ik_simp : simpOk (dictD PyData.int f l) = true := by simp [simpOk, simpleK, dictD]
theorem ik_keys : keysOk (dictD PyData.int f l) = true := by simp [keysOk, dictD]
theorem ixK_i (k : Int) : ixK (idict f l) (.int k) = (lookA l k).map f := by
  show (if kindOk _ _ = true then lookD _ _ else none) = _
  rw [if_pos (ik_kind k), lookD_enc ik_inj]
theorem getK_i (k : Int) (x : D) : getK (dictD PyData.int f l) (.int k) x = some (((lookA l k).map f).getD x) := by
  unfold getK
  rw [if_pos (ik_kind k), lookD_enc ik_inj]
theorem inK_i (k : Int) : inK (.int k) (idict f l) = some (.bool (decide (k ∈ l.map (·.1)))) := by
  show (if kindOk _ _ = true then some (PyData.bool (lookD _ _).isSome) else none) = _
  rw [if_pos (ik_kind k), lookD_enc ik_inj, Option.isSome_map]
  congr 2
  rw [Bool.eq_iff_iff, lookA_some_iff, decide_eq_true_eq]
theorem notInK_i (k : Int) : notInK (.int k) (idict f l) = some (.bool !(decide (k ∈ l.map (·.1)))) := by
  show (if kindOk _ _ = true then some (PyData.bool !(lookD _ _).isSome) else none) = _
  rw [if_pos (ik_kind k), lookD_enc ik_inj, Option.isSome_map]
  congr 3
  rw [Bool.eq_iff_iff, lookA_some_iff, decide_eq_true_eq]
theorem listV_i : listV (idict f l) = some (.list (l.map fun p => f p.2)) := by
  show (if keysOk _ = true then some (PyData.list _) else none) = _
  rw [if_pos ik_keys]; simp [dictD]
theorem listK_i : listK [idict f l] = some (intsL (l.map (·.1))) := by
  show (if keysOk _ = true then some (PyData.list _) else none) = _
  rw [if_pos ik_keys]; simp [dictD]
theorem keys_i : (dictD PyData.int f l).map (·.1) = (l.map (·.1)).map PyData.int := by simp [dictD]
end
theorem nodup_len {n : Int} {l : List Int} (h : l.Nodup) (r : ∀ x ∈ l, 0 ≤ x ∧ x < n) : l.length ≤ n.toNat := by
  have p : ((rooms n).filter fun x => decide (x ∈ l)).Perm l := (List.perm_ext_iff_of_nodup ((up_nodup (rooms_up n)).filter _) h).mpr fun x => by
    rw [List.mem_filter, decide_eq_true_eq, mem_rooms]
    exact ⟨fun z => z.2, fun z => ⟨r x z, z⟩⟩
  have h1 := p.length_eq
  have h2 := List.length_filter_le (fun x => decide (x ∈ l)) (rooms n)
  have h3 : (rooms n).length = n.toNat := by simp [rooms]
  omega
end U

set_option maxRecDepth 100000
set_option linter.all false
set_option maxHeartbeats 4000000
namespace U
open PySem PySem.Spec PyProof.Rows L2 RZ PD
open PySem.W (dataLt alike alikeAll keyToks keyToksAll)
/-! ### how many ways end in a room -/
def stL (n : Int) (ps : List (Int × Int)) (ws : List Wt) (r : Int) (k : Nat) : List Int := (nx n ps r).filter fun o => stp ws r o (k : Nat)
theorem stL_nodup (n : Int) (ps : List (Int × Int)) (ws : List Wt) (r : Int) (k : Nat) : (stL n ps ws r k).Nodup := (up_nodup (nx_up n ps r)).filter _
theorem stL_rooms {n : Int} {ps : List (Int × Int)} {ws : List Wt} {r : Int} {k : Nat} {x : Int} (h : x ∈ stL n ps ws r k) : 0 ≤ x ∧ x < n := nx_rooms (List.mem_filter.mp h).1
def ce (n : Int) (ps : List (Int × Int)) (ws : List Wt) (b : Nat) (r : Int) : Nat := (gw n ps ws b).countP fun w => lst w == r
theorem sum_add_map {α : Type} (f g : α → Nat) : ∀ l : List α, (l.map fun x => f x + g x).sum = (l.map f).sum + (l.map g).sum
  | [] => rfl
  | x :: l => by
    rw [List.map_cons, List.map_cons, List.map_cons, List.sum_cons, List.sum_cons, List.sum_cons, sum_add_map f g l]
    omega
theorem sum_one (g : Int → Nat) (k : Int) : ∀ {K : List Int}, K.Nodup → (K.map fun r => if k = r then g r else 0).sum = if k ∈ K then g k else 0
  | [], _ => rfl
  | r :: K, h => by
    rw [List.nodup_cons] at h
    rw [List.map_cons, List.sum_cons, sum_one g k h.2]
    by_cases q : k = r
    · subst q; simp [h.1]
    · simp [q]
theorem group {α : Type} (key : α → Int) (g : Int → Nat) {K : List Int} (nd : K.Nodup) : ∀ (L : List α), (∀ w ∈ L, key w ∈ K) → (L.map fun w => g (key w)).sum = (K.map fun r => (L.countP fun w => key w == r) * g r).sum
  | [], _ => by
    have : ∀ K : List Int, (K.map fun r => (0 : Nat)).sum = 0 := by intro K; induction K with | nil => rfl | cons x K ih => rw [List.map_cons, List.sum_cons, ih]
    simp [this]
  | w :: L, h => by
    rw [List.map_cons, List.sum_cons, group key g nd L fun v hv => h v (List.mem_cons_of_mem _ hv)]
    have e : (fun r => ((w :: L).countP fun w => key w == r) * g r) = fun r => (if key w = r then g r else 0) + (L.countP fun w => key w == r) * g r := by
      funext r
      rw [List.countP_cons]
      by_cases q : key w = r <;> simp [q, Nat.add_mul, Nat.add_comm]
    rw [e, sum_add_map, sum_one g _ nd, if_pos (h w List.mem_cons_self)]
theorem countP_map_snoc (w : List Int) (o : Int) (l : List Int) (nd : l.Nodup) : ((l.map fun x => w ++ [x]).countP fun v => lst v == o) = if o ∈ l then 1 else 0 := by
  rw [List.countP_map]
  have : ((fun v => lst v == o) ∘ fun x => w ++ [x]) = fun x => x == o := by funext x; show (lst (w ++ [x]) == o) = _; rw [lst_snoc]
  rw [this]
  show List.count o l = _
  exact nd.count
theorem ce_succ (n : Int) (ps : List (Int × Int)) (ws : List Wt) (b : Nat) (o : Int) : ce n ps ws (b + 1) o = ((gw n ps ws b).map fun w => if o ∈ stL n ps ws (lst w) b then 1 else 0).sum := by
  unfold ce
  rw [gw, List.countP_flatMap]
  congr 1
  refine List.map_congr_left fun w _ => ?_
  exact countP_map_snoc w o _ (stL_nodup n ps ws (lst w) b)
theorem ce_rooms {n : Int} {ps : List (Int × Int)} {ws : List Wt} {b : Nat} {r : Int} (hn : 0 < n) (h : ce n ps ws b r ≠ 0) : 0 ≤ r ∧ r < n := by
  obtain ⟨w, hw, e⟩ := List.countP_pos_iff.mp (Nat.pos_of_ne_zero h)
  have := (ways_ok hn b (gw_ways hw)).2
  rw [beq_iff_eq] at e
  rw [← e]; exact this
/-! #### counts -/
def opt (x : Nat) : Option Nat := if x = 0 then none else some x
structure DOk (n : Int) (L : List (Int × Nat)) (s : Int → Nat) : Prop where
  nd : (L.map (·.1)).Nodup
  rm : ∀ x ∈ L.map (·.1), 0 ≤ x ∧ x < n
  lk : ∀ o, lookA L o = opt (s o)
theorem DOk.len {n : Int} {L : List (Int × Nat)} {s : Int → Nat} (h : DOk n L s) (hn : n ≤ 10) : L.length ≤ 10 := by
  have := nodup_len h.nd h.rm
  rw [List.length_map] at this
  omega
abbrev natD (l : List (Int × Nat)) : D := idict (fun x : Nat => PyData.int (x : Nat)) l
theorem cnt_in {n : Int} (hn : n ≤ 10) (h W m bt : Option D) (l : List (Int × Nat)) (r : Int) (c : Nat) (hc : 0 < c) (hl : lookA l r = some c) (xs : List Int) (nd : xs.Nodup) (hx : ∀ x ∈ xs, 0 ≤ x ∧ x < n) (L0 : List (Int × Nat)) (s0 : Int → Nat) (h0 : DOk n L0 s0) (y : Option D) :
    ∃ L1 y', forGo (.nm 7) fb_counts_3 (xs.map .int) [h, W, m, some (natD l), bt, some (natD L0), some (.int r), y] = .nx [h, W, m, some (natD l), bt, some (natD L1), some (.int r), y'] ∧ DOk n L1 fun o => s0 o + if o ∈ xs then c else 0 := by
  obtain ⟨ρ', e, L1, y', rfl, ok⟩ := forGo_pre (T := .nm 7) (body := fb_counts_3) PyData.int (fun pre ρ => ∃ L1 y', ρ = [h, W, m, some (natD l), bt, some (natD L1), some (.int r), y'] ∧ DOk n L1 fun o => s0 o + if o ∈ pre then c else 0) xs [] _ ⟨L0, y, rfl, by simpa using h0⟩ (by
    rintro p o q ρ hp ⟨L, y, rfl, ok⟩
    have ho : o ∉ p := by
      rw [show xs = p ++ o :: q from hp, List.nodup_append] at nd
      exact fun z => nd.2.2 o z o List.mem_cons_self rfl
    have hr := hx o (by rw [show xs = p ++ o :: q from hp]; simp)
    have hlen : (dictD PyData.int (fun x : Nat => PyData.int (x : Nat)) L).length < lim := by have := ok.len hn; rw [List.length_map]; show _ < 1000000; omega
    have g1 := getK_i (f := fun x : Nat => PyData.int (x : Nat)) (l := L) o (.int 0)
    have g2 := ixK_i (f := fun x : Nat => PyData.int (x : Nat)) (l := l) r
    have kk := ik_kind (f := fun x : Nat => PyData.int (x : Nat)) (l := L) o
    have hso : lookA L o = opt (s0 o) := by rw [ok.lk]; simp [ho]
    have gv : ((lookA L o).map fun x : Nat => PyData.int (x : Nat)).getD (.int 0) = .int (s0 o : Nat) := by
      rw [hso]; unfold opt
      by_cases q : s0 o = 0 <;> simp [q]
    rw [gv] at g1
    rw [hl] at g2
    have ad : addD (.int (s0 o : Nat)) (.int (c : Nat)) = some (.int ((s0 o + c : Nat))) := by rw [Int.natCast_add]; rfl
    have pu := putD_enc ik_inj (fun x : Nat => PyData.int (x : Nat)) o (s0 o + c) L
    refine ⟨[h, W, m, some (natD l), bt, some (natD L), some (.int r), some (.int o)], [h, W, m, some (natD l), bt, some (natD (putA L o (s0 o + c))), some (.int r), some (.int o)], by simp [bindT], .inl ?_, _, _, rfl, putA_nodup ok.nd, fun x hx' => ?_, fun j => ?_⟩
    · simp only [fb_counts_3, sPutK, eGet2, ev_eOp2, ev_oVal, ev_oSlot, ev_eVar, ev_slotS, ev_slot0, ofO_some, bnd_ok, ev_io, ev_val, ev_op2, g1, g2, Option.map_some, ad, bS_ok, kk, hlen, and_self, if_true, pu, ev_eC]
      rfl
    · rcases putA_sub hx' with rfl | z
      · exact hr
      · exact ok.rm x z
    · rw [lookA_put, ok.lk]
      by_cases q : j = o
      · subst q
        rw [if_pos rfl]
        have : s0 j + (if j ∈ p ++ [j] then c else 0) ≠ 0 := by simp; omega
        unfold opt
        rw [if_neg this]
        simp
      · rw [if_neg q]
        simp [q])
  exact ⟨L1, y', e, ok⟩
end U

set_option maxRecDepth 100000
set_option linter.all false
set_option maxHeartbeats 4000000
namespace U
open PySem PySem.Spec PyProof.Rows L2 RZ PD
open PySem.W (dataLt alike alikeAll keyToks keyToksAll)
theorem sForK_i {β : Type} {f : β → D} {l : List (Int × β)} {T : Tg} {i : Nat} {body : PD.Env → SR} {ρ ρ' : PD.Env} (h : slotD ρ i = some (idict f l)) (e : forGo T body ((l.map (·.1)).map PyData.int) ρ = .nx ρ') : sForK T i body ρ = .nx ρ' := by
  unfold sForK
  rw [h]
  show (if simpOk _ = true then sNX (forGo T body ((dictD PyData.int f l).map (·.1)) ρ) else .err) = _
  rw [if_pos ik_simp, keys_i, e]; rfl
theorem sFor_ok {T : Tg} {fi : PD.Env → Res (List D)} {body : PD.Env → SR} {ρ ρ1 : PD.Env} {ds : List D} (h : fi ρ = .ok ds ρ1) : sFor T fi body ρ = forGo T body ds ρ1 := by
  unfold sFor
  rw [h, bS_ok]
theorem fnM_ret {p : Option Nat} {n k : Nat} {body : PD.Env → SR} {ds : List D} {d : D} {ρ : PD.Env} (h : body (ds.map some ++ List.replicate k none) = .ret d ρ) : fnM p n k body ds = .ok d (outE p n ρ) := by
  unfold fnM
  rw [h]
theorem fnM_nx {p : Option Nat} {n k : Nat} {body : PD.Env → SR} {ds : List D} {ρ : PD.Env} (h : body (ds.map some ++ List.replicate k none) = .nx ρ) : fnM p n k body ds = .ok .none (outE p n ρ) := by
  unfold fnM
  rw [h]
theorem sum_mul_ite (K : List Int) (a : Int → Nat) (p : Int → Prop) [DecidablePred p] : (K.map fun r => a r * if p r then 1 else 0).sum = (K.map fun r => if p r then a r else 0).sum := by
  congr 1
  exact List.map_congr_left fun r _ => by split <;> simp
theorem DOk.keys {n : Int} {L : List (Int × Nat)} {s : Int → Nat} (h : DOk n L s) {r : Int} : r ∈ L.map (·.1) ↔ s r ≠ 0 := by
  rw [← lookA_some_iff, h.lk]
  unfold opt
  by_cases q : s r = 0 <;> simp [q]
section
variable {n : Int} {ps : List (Int × Int)} {ws : List Wt}
theorem ce_step {l : List (Int × Nat)} {b : Nat} (hn : 0 < n) (ok : DOk n l (ce n ps ws b)) (o : Int) : ((l.map (·.1)).map fun r => if o ∈ stL n ps ws r b then ce n ps ws b r else 0).sum = ce n ps ws (b + 1) o := by
  rw [ce_succ, group lst (fun r => if o ∈ stL n ps ws r b then 1 else 0) ok.nd, ← sum_mul_ite]
  · rfl
  · intro w hw
    rw [ok.keys]
    have : 0 < ce n ps ws b (lst w) := List.countP_pos_iff.mpr ⟨w, hw, by simp⟩
    omega
theorem cnt_mid (h : HsOk n ps) (hw : ∀ w ∈ ws, WtOk n ps w) (b : Nat) (m : Option D) (l : List (Int × Nat)) (ok : DOk n l (ce n ps ws b)) (x y : Option D) :
    ∃ L x' y', forGo (.nm 6) fb_counts_2 ((l.map (·.1)).map PyData.int) [some (hous n ps), some (.tuple (ws.map encW)), m, some (natD l), some (.int (b : Nat)), some (natD []), x, y] = .nx [some (hous n ps), some (.tuple (ws.map encW)), m, some (natD l), some (.int (b : Nat)), some (natD L), x', y'] ∧ DOk n L (ce n ps ws (b + 1)) := by
  have hn : 0 < n := by have := h.lo; omega
  obtain ⟨ρ', e, L, x', y', rfl, ok'⟩ := forGo_pre (T := .nm 6) (body := fb_counts_2) PyData.int (fun pre ρ => ∃ L x' y', ρ = [some (hous n ps), some (.tuple (ws.map encW)), m, some (natD l), some (.int (b : Nat)), some (natD L), x', y'] ∧ DOk n L fun o => (pre.map fun r => if o ∈ stL n ps ws r b then ce n ps ws b r else 0).sum) (l.map (·.1)) [] _ ⟨[], x, y, rfl, by simp, by simp, fun o => by simp [lookA_nil, opt]⟩ (by
    rintro p r q ρ hp ⟨L, x, y, rfl, okL⟩
    have hm : r ∈ l.map (·.1) := by rw [show l.map (·.1) = p ++ r :: q from hp]; simp
    have hr := ok.rm r hm
    have hc : 0 < ce n ps ws b r := Nat.pos_of_ne_zero (ok.keys.mp hm)
    have hl : lookA l r = some (ce n ps ws b r) := by rw [ok.lk]; unfold opt; rw [if_neg (by omega)]
    have c := fun ρ => call4 (ρ := ρ) (steps_t h hw hr (b : Nat))
    obtain ⟨L1, y1, e1, ok1⟩ := cnt_in h.hi (some (hous n ps)) (some (.tuple (ws.map encW))) m (some (.int (b : Nat))) l r _ hc hl (stL n ps ws r b) (stL_nodup n ps ws r b) (fun x hx => stL_rooms hx) L _ okL y
    refine ⟨[some (hous n ps), some (.tuple (ws.map encW)), m, some (natD l), some (.int (b : Nat)), some (natD L), some (.int r), y], _, by simp [bindT], .inl ?_, L1, some (.int r), y1, rfl, ?_⟩
    · have hi : (iOf (eCall 4 none m_steps_from (aCons (oVal (eVar 0)) (aCons (oVal (eVar 1)) (aCons (oVal (eVar 6)) (aCons (oVal (eVar 4)) aNil)))))) [some (hous n ps), some (.tuple (ws.map encW)), m, some (natD l), some (.int (b : Nat)), some (natD L), some (.int r), y] = .ok ((stL n ps ws r b).map PyData.int) [some (hous n ps), some (.tuple (ws.map encW)), m, some (natD l), some (.int (b : Nat)), some (natD L), some (.int r), y] := by
        simp [c, itemsD, stL]
      rw [fb_counts_2, sFor_ok hi]
      exact e1
    · have : (fun o => ((p ++ [r]).map fun r => if o ∈ stL n ps ws r b then ce n ps ws b r else 0).sum) = fun o => (p.map fun r => if o ∈ stL n ps ws r b then ce n ps ws b r else 0).sum + if o ∈ stL n ps ws r b then ce n ps ws b r else 0 := by
        funext o
        rw [List.map_append, List.sum_append]; simp
      rw [this]; exact ok1)
  refine ⟨L, x', y', e, ok'.nd, ok'.rm, fun o => ?_⟩
  rw [ok'.lk]
  show opt ((l.map (·.1)).map _).sum = _
  rw [ce_step hn ok]
theorem counts_t (h : HsOk n ps) (hw : ∀ w ∈ ws, WtOk n ps w) (k : Nat) (hk : k ≤ 900) : ∃ l, m_counts [hous n ps, .tuple (ws.map encW), .int ((k : Nat) + 1)] = .ok (natD l) [none, none, none] ∧ DOk n l (ce n ps ws k) := by
  have hn : 0 < n := by have := h.lo; omega
  have ok0 : DOk n [((0 : Int), (1 : Nat))] (ce n ps ws 0) := ⟨by simp, by simp; exact hn, fun o => by
    rw [lookA_cons, lookA_nil]
    unfold ce gw opt
    by_cases q : (0 : Int) = o <;> simp [lst, q]⟩
  obtain ⟨ρ', e, l, bt, lt, x, y, rfl, ok⟩ := forGo_pre (T := .nm 4) (body := fb_counts_1) (fun i : Nat => PyData.int ((i : Nat) : Int)) (fun pre ρ => ∃ l bt lt x y, ρ = [some (hous n ps), some (.tuple (ws.map encW)), some (.int ((k : Nat) + 1)), some (natD l), bt, lt, x, y] ∧ DOk n l (ce n ps ws pre.length)) (List.range k) [] [some (hous n ps), some (.tuple (ws.map encW)), some (.int ((k : Nat) + 1)), some (natD [(0, 1)]), none, none, none, none] ⟨_, none, none, none, none, rfl, ok0⟩ (by
    rintro p i q ρ hp ⟨l, bt, lt, x, y, rfl, ok⟩
    have hi : i = p.length := by
      have := congrArg (fun l => l[p.length]?) hp
      simp at this
      by_cases hlt : p.length < k
      · rw [List.getElem?_eq_getElem (by simpa using hlt)] at this
        simpa using this.symm
      · rw [List.getElem?_eq_none (by simpa using hlt)] at this
        cases this
    obtain ⟨L, x', y', e1, ok1⟩ := cnt_mid h hw p.length (some (.int ((k : Nat) + 1))) l ok x y
    refine ⟨[some (hous n ps), some (.tuple (ws.map encW)), some (.int ((k : Nat) + 1)), some (natD l), some (.int (i : Nat)), lt, x, y], [some (hous n ps), some (.tuple (ws.map encW)), some (.int ((k : Nat) + 1)), some (natD L), some (.int (i : Nat)), none, x', y'], by simp [bindT], .inl ?_, L, _, _, _, _, rfl, by simpa using ok1⟩
    have e2 := sForK_i (i := 3) (T := .nm 6) (body := fb_counts_2) (ρ := [some (hous n ps), some (.tuple (ws.map encW)), some (.int ((k : Nat) + 1)), some (natD l), some (.int (p.length : Nat)), some (natD []), x, y]) (f := fun x : Nat => PyData.int (x : Nat)) (l := l) rfl e1
    subst hi
    simp [fb_counts_1, eDict0, show sForK (.nm 6) 3 fb_counts_2 [some (hous n ps), some (.tuple (ws.map encW)), some (.int ((k : Nat) + 1)), some (natD l), some (.int (p.length : Nat)), some (.dict []), x, y] = _ from e2, eMov])
  have rg := rgI_ok (a := 0) (b := (k : Int)) (by omega) (by omega)
  have sb := sub1 (k : Int)
  have hi : (iRg1 (eOp2 subD (oVal (eVar 2)) (oVal (eC (.int 1))))) [some (hous n ps), some (.tuple (ws.map encW)), some (.int ((k : Nat) + 1)), some (natD [(0, 1)]), none, none, none, none] = .ok ((List.range k).map fun i : Nat => PyData.int ((i : Nat) : Int)) [some (hous n ps), some (.tuple (ws.map encW)), some (.int ((k : Nat) + 1)), some (natD [(0, 1)]), none, none, none, none] := by
    rw [← rgD0]
    simp [sb, rg]
  have hb : body_counts [some (hous n ps), some (.tuple (ws.map encW)), some (.int ((k : Nat) + 1)), none, none, none, none, none] = .ret (natD l) [some (hous n ps), some (.tuple (ws.map encW)), some (.int ((k : Nat) + 1)), some (natD l), bt, lt, x, y] := by
    have e0 : (sSet 3 (eDict1 (eC (.int 0)) (eC (.int 1)))) [some (hous n ps), some (.tuple (ws.map encW)), some (.int ((k : Nat) + 1)), none, none, none, none, none] = .nx [some (hous n ps), some (.tuple (ws.map encW)), some (.int ((k : Nat) + 1)), some (natD [(0, 1)]), none, none, none, none] := rfl
    rw [body_counts, ev_sSeq, e0, sThen_nx, ev_sSeq, sFor_ok hi, e, sThen_nx]
    rfl
  exact ⟨l, fnM_ret hb, by simpa using ok⟩
theorem need_beats_t (k : Nat) (hk : k ≤ 11) : m_need_beats [.int ((k : Nat) + 1)] = .ok .none [none] := by
  have c := fun ρ => whole_c ρ ((k : Nat) + 1) 1 12
  have e : (decide ((1 : Int) ≤ (k : Nat) + 1) && decide (((k : Nat) : Int) + 1 ≤ 12)) = true := by rw [Bool.and_eq_true, decide_eq_true_eq, decide_eq_true_eq]; omega
  rw [e] at c
  simp [m_need_beats, fnM, outE, body_need_beats, c, boolD]
theorem ce_total {l : List (Int × Nat)} {k : Nat} (hn : 0 < n) (ok : DOk n l (ce n ps ws k)) : (l.map (·.2)).sum = (gw n ps ws k).length := by
  have h1 : (l.map (·.2)) = (l.map (·.1)).map (ce n ps ws k) := by
    rw [List.map_map]
    refine List.map_congr_left fun p hp => ?_
    have := lookA_mem ok.nd hp
    rw [ok.lk] at this
    unfold opt at this
    split at this
    · cases this
    · exact (Option.some.inj this).symm
  have h2 := group lst (fun _ => 1) ok.nd (gw n ps ws k) fun w hw => by
    rw [ok.keys]
    have : 0 < ce n ps ws k (lst w) := List.countP_pos_iff.mpr ⟨w, hw, beq_self_eq_true _⟩
    omega
  rw [h1]
  have h3 : ∀ L : List (List Int), (L.map fun _ => 1).sum = L.length := by intro L; induction L with | nil => rfl | cons x L ih => rw [List.map_cons, List.sum_cons, ih, List.length_cons]; omega
  rw [← h3 (gw n ps ws k), h2]
  congr 1
  exact List.map_congr_left fun r _ => by rw [Nat.mul_one]; rfl
theorem how_many_t (h : HsOk n ps) (hw : WsOk n ps ws) (k : Nat) (hk : k ≤ 11) : m_how_many [hous n ps, .tuple (ws.map encW), .int ((k : Nat) + 1)] = .ok (.int ((gw n ps ws k).length : Nat)) [none, none, none] := by
  have hn : 0 < n := by have := h.lo; omega
  obtain ⟨l, e, ok⟩ := counts_t h hw.ok k (by omega)
  have c1 := fun ρ => call2 (ρ := ρ) (need_watchers_t h hw)
  have c2 := fun ρ => call1 (ρ := ρ) (need_beats_t k hk)
  have c3 := fun ρ => call3 (ρ := ρ) e
  have lv := listV_i (f := fun x : Nat => PyData.int (x : Nat)) (l := l)
  have sm := sumD_nats (fun p : Int × Nat => p.2) l
  rw [ce_total hn ok] at sm
  simp [m_how_many, fnM, outE, body_how_many, c1, c2, c3, lv, derefs, sm]
theorem how_many_to_t (h : HsOk n ps) (hw : WsOk n ps ws) (g : Int) (hg : 1 ≤ g ∧ g < n) (k : Nat) (hk : k ≤ 11) : m_how_many_to [hous n ps, .tuple (ws.map encW), .int g, .int ((k : Nat) + 1)] = .ok (.int (ce n ps ws k g : Nat)) [none, none, none, none] := by
  obtain ⟨l, e, ok⟩ := counts_t h hw.ok k (by omega)
  have c1 := fun ρ => call2 (ρ := ρ) (need_watchers_t h hw)
  have c2 := fun ρ => call1 (ρ := ρ) (need_beats_t k hk)
  have c4 := fun ρ => call2 (ρ := ρ) (need_goal_t (ps := ps) hg)
  have c3 := fun ρ => call3 (ρ := ρ) e
  have g1 := getK_i (f := fun x : Nat => PyData.int (x : Nat)) (l := l) g (.int 0)
  have gv : ((lookA l g).map fun x : Nat => PyData.int (x : Nat)).getD (.int 0) = .int (ce n ps ws k g : Nat) := by
    rw [ok.lk]; unfold opt
    by_cases q : ce n ps ws k g = 0 <;> simp [q]
  rw [gv] at g1
  simp [m_how_many_to, fnM, outE, body_how_many_to, c1, c2, c3, c4, eGet2, g1]
end
end U

set_option maxRecDepth 100000
set_option linter.all false
set_option maxHeartbeats 4000000
namespace U
open PySem PySem.Spec PyProof.Rows L2 RZ PD
open PySem.W (dataLt alike alikeAll keyToks keyToksAll)
/-! ### the draws, as calls -/
theorem call3L {m : List D → Res D} {a c d : D} {tw tw' : List D} {x z : Option D} (e : m [a, .list tw, c] = .ok d [x, some (.list tw'), z]) (b : Option D) (ρ : PD.Env) : callM 3 (some (1, 1)) m [.val a, .lnd 1, .val c] (b :: some (.list tw) :: ρ) = .ok d (b :: some (.list tw') :: ρ) := by
  simp [callM, argIn, e, putOut]
theorem call4L {m : List D → Res D} {a c c' d : D} {tw tw' : List D} {x y z : Option D} (e : m [a, .list tw, c, c'] = .ok d [x, some (.list tw'), y, z]) (b : Option D) (ρ : PD.Env) : callM 4 (some (1, 1)) m [.val a, .lnd 1, .val c, .val c'] (b :: some (.list tw) :: ρ) = .ok d (b :: some (.list tw') :: ρ) := by
  simp [callM, argIn, e, putOut]
theorem house_e (ns : List Int) (tw : List D) (m : Int) (hm : 2 ≤ m ∧ m ≤ 9) (hl : tw.length ≤ 1500) : ∃ n ps tw', HsOk n ps ∧ tw'.length ≤ tw.length + 500 ∧ ∀ (a : Option D) (ρ : PD.Env), callM 3 (some (1, 1)) m__law_house [.val (scr ns), .lnd 1, .val (.int m)] (a :: some (.list tw) :: ρ) = .ok (hous n ps) (a :: some (.list tw') :: ρ) := by
  obtain ⟨n, ps, tw', h, l, e⟩ := house_c ns tw m hm hl
  exact ⟨n, ps, tw', h, l, call3L e⟩
theorem watchers_e {n : Int} {ps : List (Int × Int)} (h : HsOk n ps) (ns : List Int) (tw : List D) (m : Int) (hm : 0 ≤ m ∧ m ≤ 12) (hl : tw.length ≤ 3000) :
    ∃ ws tw', tw'.length ≤ tw.length + 100 ∧ WsOk n ps ws ∧ ws.length ≤ m ∧ (∀ w ∈ ws, bt w.2 ∈ beats10) ∧ ∀ (a : Option D) (ρ : PD.Env), callM 4 (some (1, 1)) m__law_watchers [.val (scr ns), .lnd 1, .val (hous n ps), .val (.int m)] (a :: some (.list tw) :: ρ) = .ok (.tuple (ws.map encW)) (a :: some (.list tw') :: ρ) := by
  obtain ⟨ws, tw', e, l, h1, h2, h3⟩ := watchers_t h ns tw m hm hl
  exact ⟨ws, tw', l, h1, h2, h3, call4L e⟩
theorem draw_e (ns : List Int) (tw : List D) (n : Int) (hn : 0 < n) (hl : tw.length ≤ 5000) : ∃ r : Nat, (r : Int) < n ∧ ∀ (a : Option D) (ρ : PD.Env), callM 3 (some (1, 1)) m__law_draw [.val (scr ns), .lnd 1, .val (.int n)] (a :: some (.list tw) :: ρ) = .ok (.int (r : Nat)) (a :: some (.list (tw ++ [.int 0])) :: ρ) := by
  obtain ⟨r, h0, h1, e⟩ := draw_c ns tw n hn (by show _ < 1000000; omega)
  obtain ⟨k, rfl⟩ := Int.eq_ofNat_of_zero_le h0
  exact ⟨k, h1, e⟩
theorem pick_e (ns : List Int) (tw some_ : List D) (h0 : some_ ≠ []) (hl : tw.length ≤ 5000) : ∃ d, d ∈ some_ ∧ ∀ (a : Option D) (ρ : PD.Env), callM 3 (some (1, 1)) m__law_pick [.val (scr ns), .lnd 1, .val (.list some_)] (a :: some (.list tw) :: ρ) = .ok d (a :: some (.list (tw ++ [.int 0])) :: ρ) := pick_c ns tw some_ h0 (by show _ < 1000000; omega)
theorem rgAB (a b : Int) : rgD a b = (List.range (b - a).toNat).map fun i => PyData.int (a + (i : Nat)) := rfl
theorem addI (a b : Int) : addD (.int a) (.int b) = some (.int (a + b)) := rfl
theorem subI (a b : Int) : subD (.int a) (.int b) = some (.int (a - b)) := rfl
end U

set_option maxRecDepth 100000
set_option linter.all false
set_option maxHeartbeats 4000000
namespace U
open PySem PySem.Spec PyProof.Rows L2 RZ PD
open PySem.W (dataLt alike alikeAll keyToks keyToksAll)
/-! ### ways in their order -/
theorem lex_snoc (a b : Int) : ∀ {u v : List Int}, u.length = v.length → u < v → u ++ [a] < v ++ [b]
  | [], [], _, h => absurd h (List.not_lt_nil _)
  | x :: u, y :: v, hl, h => by
    rw [List.cons_append, List.cons_append, List.cons_lt_cons_iff]
    rcases List.cons_lt_cons_iff.mp h with h | ⟨h, h2⟩
    · exact .inl h
    · exact .inr ⟨h, lex_snoc a b (by simpa using hl) h2⟩
theorem lex_last {a b : Int} (h : a < b) : ∀ u : List Int, u ++ [a] < u ++ [b]
  | [] => List.cons_lt_cons_iff.mpr (.inl h)
  | x :: u => List.cons_lt_cons_iff.mpr (.inr ⟨rfl, lex_last h u⟩)
theorem lex_asymm : ∀ {u v : List Int}, u < v → ¬ v < u
  | [], _, _, h => absurd h (List.not_lt_nil _)
  | _ :: _, [], h, _ => absurd h (List.not_lt_nil _)
  | x :: u, y :: v, h, h' => by
    rcases List.cons_lt_cons_iff.mp h with h | ⟨h, h2⟩ <;> rcases List.cons_lt_cons_iff.mp h' with h' | ⟨h', h2'⟩
    · omega
    · omega
    · omega
    · exact lex_asymm h2 h2'
theorem lex_irrefl' (u : List Int) : ¬ u < u := fun h => lex_asymm h h
theorem ways_alike : ∀ u v : List Int, alike (wayD u) (wayD v) = true := by
  have go : ∀ u v : List Int, alikeAll (u.map PyData.int) (v.map PyData.int) = true := by
    intro u
    induction u with
    | nil => intro v; cases v <;> simp [alikeAll]
    | cons x u ih => intro v; cases v with | nil => simp [alikeAll] | cons y v => simp [alikeAll, alike, ih]
  intro u v
  simp only [wayD, alike, go]
theorem way_plain (u : List Int) : plainK (wayD u) = true := by
  simp only [wayD, plainK]
  exact plainKs_iff.mpr fun d hd => by obtain ⟨x, _, rfl⟩ := List.mem_map.mp hd; rfl
theorem way_lt (u v : List Int) : dataLt (wayD u) (wayD v) = decide (u < v) := by
  rw [wayD, wayD, PySem.W.dataLt_tuple]
  exact PySem.W.dataLt_ints u v
theorem way_shp (u : List Int) : shp 1 (wayD u) = true := by
  rw [wayD, shp]
  exact shpAll_iff.mpr fun d hd => by obtain ⟨x, _, rfl⟩ := List.mem_map.mp hd; rfl
theorem way_inj {u v : List Int} (h : wayD u = wayD v) : u = v := by
  simp only [wayD, PyData.tuple.injEq] at h
  exact (List.map_inj_right fun _ _ e => by simpa using e).mp h
theorem sort_ways {xs ys : List (List Int)} (p : ys.Perm xs) (s : ys.Pairwise (· < ·)) (ne : ∀ x ∈ xs, x ≠ []) : sortD [.list (xs.map wayD)] = some (.list (ys.map wayD)) := by
  have : sortOk (xs.map wayD) = true := by
    unfold sortOk
    rw [Bool.and_eq_true, Bool.and_eq_true, Bool.or_eq_true]
    refine ⟨⟨List.all_eq_true.mpr fun d hd => ?_, List.all_eq_true.mpr fun a ha => List.all_eq_true.mpr fun b hb => ?_⟩, .inl (List.all_eq_true.mpr fun d hd => ?_)⟩
    · obtain ⟨x, _, rfl⟩ := List.mem_map.mp hd
      exact shaped_of (way_shp x) (by decide)
    · obtain ⟨x, _, rfl⟩ := List.mem_map.mp ha
      obtain ⟨y, _, rfl⟩ := List.mem_map.mp hb
      exact ways_alike x y
    · obtain ⟨x, hx, rfl⟩ := List.mem_map.mp hd
      cases x with
      | nil => exact absurd rfl (ne _ hx)
      | cons _ _ => rfl
  show (if sortOk (xs.map wayD) = true then some (PyData.list ((xs.map wayD).mergeSort dleD)) else none) = _
  rw [if_pos this, sort_typed wayD p (fun x _ => way_plain x) (fun x _ y _ => ways_alike x y) (s.imp fun {a b} h => ?_)]
  unfold dleD
  rw [way_lt]
  simp [lex_asymm h]
section
variable {n : Int} {ps : List (Int × Int)} {ws : List Wt}
theorem gw_up (hn : 0 < n) : ∀ k : Nat, (gw n ps ws k).Pairwise (· < ·)
  | 0 => by simp [gw]
  | k + 1 => by
    rw [gw, List.pairwise_flatMap]
    refine ⟨fun w _ => ?_, (gw_up hn k).imp_of_mem fun {u v} hu hv h x hx y hy => ?_⟩
    · rw [List.pairwise_map]
      exact ((nx_up n ps (lst w)).filter _).imp fun h => lex_last h w
    · obtain ⟨a, _, rfl⟩ := List.mem_map.mp hx
      obtain ⟨b, _, rfl⟩ := List.mem_map.mp hy
      exact lex_snoc a b (by rw [(ways_ok hn k (gw_ways hu)).1, (ways_ok hn k (gw_ways hv)).1]) h
/-- the least of the ways to a room that nobody sees -/
def fw (n : Int) (ps : List (Int × Int)) (ws : List Wt) (b : Nat) (r : Int) : Option (List Int) := (gw n ps ws b).find? fun w => lst w == r
def firsts (n : Int) (ps : List (Int × Int)) (ws : List Wt) (b : Nat) : List (List Int) := (gw n ps ws b).filter fun w => decide (fw n ps ws b (lst w) = some w)
theorem find_flat (f : List Int → List Int) (o : Int) : ∀ L : List (List Int), (L.flatMap fun w => (f w).map fun x => w ++ [x]).find? (fun w => lst w == o) = (L.find? fun w => decide (o ∈ f w)).map fun w => w ++ [o]
  | [] => rfl
  | w :: L => by
    rw [List.flatMap_cons, List.find?_append, find_flat f o L, List.find?_cons, List.find?_map]
    have : ((fun w => lst w == o) ∘ fun x => w ++ [x]) = fun x => x == o := by funext x; show (lst (w ++ [x]) == o) = _; rw [lst_snoc]
    rw [this]
    by_cases h : o ∈ f w
    · have : (f w).find? (fun x => x == o) = some o := by
        cases q : (f w).find? (fun x => x == o) with
        | none => have := List.find?_eq_none.mp q o h; simp at this
        | some y => have := List.find?_some q; rw [beq_iff_eq] at this; rw [this]
      rw [this]
      simp [h]
    · have : (f w).find? (fun x => x == o) = none := List.find?_eq_none.mpr fun x hx e => h (by rw [beq_iff_eq] at e; rw [← e]; exact hx)
      rw [this]
      simp [h]
theorem fw_succ (b : Nat) (o : Int) : fw n ps ws (b + 1) o = ((gw n ps ws b).find? fun w => decide (o ∈ stL n ps ws (lst w) b)).map fun w => w ++ [o] := by
  unfold fw
  rw [gw]
  exact find_flat (fun w => stL n ps ws (lst w) b) o _
theorem find_firsts (L : List (List Int)) (Q : Int → Bool) : (L.filter fun w => decide (L.find? (fun v => lst v == lst w) = some w)).find? (fun w => Q (lst w)) = L.find? fun w => Q (lst w) := by
  rw [List.find?_filter]
  cases q : L.find? (fun w => Q (lst w)) with
  | none =>
    rw [List.find?_eq_none] at q ⊢
    intro w hw
    have := q w hw
    simp at this ⊢
    intro _; exact this
  | some w =>
    obtain ⟨h1, as, bs, e, h2⟩ := List.find?_eq_some_iff_append.mp q
    refine List.find?_eq_some_iff_append.mpr ⟨?_, as, bs, e, fun a ha => ?_⟩
    · rw [decide_eq_true_eq, decide_eq_true_eq]
      refine ⟨List.find?_eq_some_iff_append.mpr ⟨by simp, as, bs, e, fun a ha => ?_⟩, h1⟩
      have := h2 a ha
      rw [Bool.not_eq_true', ← Bool.not_eq_true] at this ⊢
      intro z
      rw [beq_iff_eq] at z
      rw [z] at this
      exact this h1
    · have := h2 a ha
      rw [Bool.not_eq_true'] at this
      simp [this]
theorem fw_step (b : Nat) (o : Int) : ((firsts n ps ws b).find? fun w => decide (o ∈ stL n ps ws (lst w) b)).map (fun w => w ++ [o]) = fw n ps ws (b + 1) o := by
  rw [fw_succ]
  congr 1
  exact find_firsts (gw n ps ws b) fun r => decide (o ∈ stL n ps ws r b)
theorem fw_some {b : Nat} {r : Int} {w : List Int} (h : fw n ps ws b r = some w) : w ∈ gw n ps ws b ∧ lst w = r := ⟨List.mem_of_find?_eq_some h, by have := List.find?_some h; simpa using this⟩
/-- what a dict of ways holds -/
structure WOk (n : Int) (ps : List (Int × Int)) (ws : List Wt) (b : Nat) (l : List (Int × List Int)) : Prop where
  nd : (l.map (·.1)).Nodup
  rm : ∀ x ∈ l.map (·.1), 0 ≤ x ∧ x < n
  lk : ∀ o, lookA l o = fw n ps ws b o
abbrev wdict (l : List (Int × List Int)) : D := idict wayD l
theorem WOk.vals (hn : 0 < n) {b : Nat} {l : List (Int × List Int)} (h : WOk n ps ws b l) : (firsts n ps ws b).Perm (l.map (·.2)) := by
  have up := gw_up (n := n) (ps := ps) (ws := ws) hn b
  have nd1 : (firsts n ps ws b).Nodup := by
    show List.Pairwise (· ≠ ·) (firsts n ps ws b)
    exact (up.filter _).imp fun {a c} (h : a < c) (e : a = c) => by subst e; exact lex_irrefl' _ h
  have nd2 : (l.map (·.2)).Nodup := by
    have : l.Nodup := by
      have h1 := h.nd
      rw [List.Nodup, List.pairwise_map] at h1
      exact h1.imp fun h e => h (by rw [e])
    refine nodup_map_on this fun p hp q hq e => ?_
    have h1 := lookA_mem h.nd hp
    have h2 := lookA_mem h.nd hq
    rw [h.lk] at h1 h2
    have e1 := (fw_some h1).2
    have e2 := (fw_some h2).2
    exact Prod.ext (by rw [← e1, ← e2, e]) e
  refine (List.perm_ext_iff_of_nodup nd1 nd2).mpr fun w => ?_
  unfold firsts
  rw [List.mem_filter, decide_eq_true_eq, List.mem_map]
  constructor
  · rintro ⟨_, h2⟩
    rw [← h.lk] at h2
    exact ⟨(lst w, w), mem_lookA h2, rfl⟩
  · rintro ⟨p, hp, rfl⟩
    have h1 := lookA_mem h.nd hp
    rw [h.lk] at h1
    obtain ⟨h2, h3⟩ := fw_some h1
    exact ⟨h2, by rw [h3]; exact h1⟩
end
end U

set_option maxRecDepth 100000
set_option linter.all false
set_option maxHeartbeats 4000000
namespace U
open PySem PySem.Spec PyProof.Rows L2 RZ PD
open PySem.W (dataLt alike alikeAll keyToks keyToksAll)
structure AOk {β : Type} (n : Int) (L : List (Int × β)) (s : Int → Option β) : Prop where
  nd : (L.map (·.1)).Nodup
  rm : ∀ x ∈ L.map (·.1), 0 ≤ x ∧ x < n
  lk : ∀ o, lookA L o = s o
theorem AOk.len {β : Type} {n : Int} {L : List (Int × β)} {s : Int → Option β} (h : AOk n L s) (hn : n ≤ 10) : L.length ≤ 10 := by
  have := nodup_len h.nd h.rm
  rw [List.length_map] at this
  omega
section
variable {n : Int} {ps : List (Int × Int)} {ws : List Wt}
theorem wb_in (hn : n ≤ 10) (h W m md bt : Option D) (w : List Int) (hw : w.length ≤ 100) (xs : List Int) (hx : ∀ x ∈ xs, 0 ≤ x ∧ x < n) (L0 : List (Int × List Int)) (s0 : Int → Option (List Int)) (h0 : AOk n L0 s0) (y : Option D) :
    ∃ L1 y', forGo (.nm 7) fb_ways_by_beat_3 (xs.map .int) [h, W, m, md, bt, some (wdict L0), some (wayD w), y] = .nx [h, W, m, md, bt, some (wdict L1), some (wayD w), y'] ∧ AOk n L1 fun o => (s0 o).or (if o ∈ xs then some (w ++ [o]) else none) := by
  obtain ⟨ρ', e, L1, y', rfl, ok⟩ := forGo_pre (T := .nm 7) (body := fb_ways_by_beat_3) PyData.int (fun pre ρ => ∃ L1 y', ρ = [h, W, m, md, bt, some (wdict L1), some (wayD w), y'] ∧ AOk n L1 fun o => (s0 o).or (if o ∈ pre then some (w ++ [o]) else none)) xs [] _ ⟨L0, y, rfl, h0.nd, h0.rm, fun o => by simp [h0.lk]⟩ (by
    rintro p o q ρ hp ⟨L, y, rfl, ok⟩
    have hr := hx o (by rw [show xs = p ++ o :: q from hp]; simp)
    have hlen : (dictD PyData.int wayD L).length < lim := by have := ok.len hn; rw [List.length_map]; show _ < 1000000; omega
    have kk := ik_kind (f := wayD) (l := L) o
    have ad := way_snoc o (show w.length ≤ 1000 by omega)
    have lk := lookD_enc ik_inj wayD o L
    have pu := putD_enc ik_inj wayD o (w ++ [o]) L
    cases q1 : lookA L o with
    | some v =>
      rw [q1, Option.map_some] at lk
      refine ⟨[h, W, m, md, bt, some (wdict L), some (wayD w), some (.int o)], [h, W, m, md, bt, some (wdict L), some (wayD w), some (.int o)], by simp [bindT], .inl ?_, _, _, rfl, ok.nd, ok.rm, fun j => ?_⟩
      · simp only [fb_ways_by_beat_3, ev_sDrop, eSetd, ev_eOp2, ev_oVal, ev_eVar, ev_slotS, ev_slot0, ofO_some, bnd_ok, ev_val, ev_op2, ev_eTup, ev_aCons, ev_aNil, valsOf, Option.map_some, List.length_cons, List.length_nil, show (0 + 1 : Nat) ≤ lim by decide, ad, bS_ok, kk, hlen, and_self, if_true, lk]
      · rw [ok.lk]
        by_cases z : j = o
        · subst z
          have := ok.lk j
          rw [q1] at this
          rw [← this]
          cases e : s0 j with
          | some u => rw [e] at this; simp at this; simp [this]
          | none =>
            rw [e] at this
            by_cases zp : j ∈ p
            · simp [zp] at this; simp [zp, this]
            · simp [zp] at this
        · simp [z]
    | none =>
      rw [q1, Option.map_none] at lk
      refine ⟨[h, W, m, md, bt, some (wdict L), some (wayD w), some (.int o)], [h, W, m, md, bt, some (wdict (putA L o (w ++ [o]))), some (wayD w), some (.int o)], by simp [bindT], .inl ?_, _, _, rfl, putA_nodup ok.nd, fun x hx' => ?_, fun j => ?_⟩
      · simp only [fb_ways_by_beat_3, ev_sDrop, eSetd, ev_eOp2, ev_oVal, ev_eVar, ev_slotS, ev_slot0, ofO_some, bnd_ok, ev_val, ev_op2, ev_eTup, ev_aCons, ev_aNil, valsOf, Option.map_some, List.length_cons, List.length_nil, show (0 + 1 : Nat) ≤ lim by decide, ad, bS_ok, kk, hlen, and_self, if_true, lk, pu]
        rfl
      · rcases putA_sub hx' with rfl | z
        · exact hr
        · exact ok.rm x z
      · rw [lookA_put, ok.lk]
        by_cases z : j = o
        · subst z
          have := ok.lk j
          rw [q1] at this
          cases e : s0 j with
          | some u => rw [e] at this; simp at this
          | none => simp
        · simp [z])
  exact ⟨L1, y', e, ok⟩
theorem wb_mid (h : HsOk n ps) (hw : ∀ w ∈ ws, WtOk n ps w) (b : Nat) (hb : b ≤ 60) (m md : Option D) (x y : Option D) :
    ∃ L x' y', forGo (.nm 6) fb_ways_by_beat_2 ((firsts n ps ws b).map wayD) [some (hous n ps), some (.tuple (ws.map encW)), m, md, some (.int (b : Nat)), some (wdict []), x, y] = .nx [some (hous n ps), some (.tuple (ws.map encW)), m, md, some (.int (b : Nat)), some (wdict L), x', y'] ∧ WOk n ps ws (b + 1) L := by
  have hn : 0 < n := by have := h.lo; omega
  obtain ⟨ρ', e, L, x', y', rfl, ok'⟩ := forGo_pre (T := .nm 6) (body := fb_ways_by_beat_2) wayD (fun pre ρ => ∃ L x' y', ρ = [some (hous n ps), some (.tuple (ws.map encW)), m, md, some (.int (b : Nat)), some (wdict L), x', y'] ∧ AOk n L fun o => (pre.find? fun w => decide (o ∈ stL n ps ws (lst w) b)).map fun w => w ++ [o]) (firsts n ps ws b) [] _ ⟨[], x, y, rfl, by simp, by simp, fun o => by simp [lookA_nil]⟩ (by
    rintro p w q ρ hp ⟨L, x, y, rfl, okL⟩
    have hm : w ∈ firsts n ps ws b := by rw [show firsts n ps ws b = p ++ w :: q from hp]; simp
    obtain ⟨hl, hr⟩ := ways_ok hn b (gw_ways (List.mem_filter.mp hm).1)
    have hne : w ≠ [] := fun e => by rw [e] at hl; simp at hl
    have c := fun ρ => call4 (ρ := ρ) (steps_t h hw hr (b : Nat))
    have ix := way_last hne
    obtain ⟨L1, y1, e1, ok1⟩ := wb_in h.hi (some (hous n ps)) (some (.tuple (ws.map encW))) m md (some (.int (b : Nat))) w (by omega) (stL n ps ws (lst w) b) (fun x hx => stL_rooms hx) L _ okL y
    refine ⟨[some (hous n ps), some (.tuple (ws.map encW)), m, md, some (.int (b : Nat)), some (wdict L), some (wayD w), y], _, by simp [bindT], .inl ?_, L1, some (wayD w), y1, rfl, ?_⟩
    · have hi : (iOf (eCall 4 none m_steps_from (aCons (oVal (eVar 0)) (aCons (oVal (eVar 1)) (aCons (oVal (eOp2 ixD (oVal (eVar 6)) (oVal (eOp1 negD (oVal (eC (.int 1))))))) (aCons (oVal (eVar 4)) aNil)))))) [some (hous n ps), some (.tuple (ws.map encW)), m, md, some (.int (b : Nat)), some (wdict L), some (wayD w), y] = .ok ((stL n ps ws (lst w) b).map PyData.int) [some (hous n ps), some (.tuple (ws.map encW)), m, md, some (.int (b : Nat)), some (wdict L), some (wayD w), y] := by
        simp [negD, ix, c, itemsD, stL]
      rw [fb_ways_by_beat_2, sFor_ok hi]
      exact e1
    · have : (fun o => ((p ++ [w]).find? fun w => decide (o ∈ stL n ps ws (lst w) b)).map fun w => w ++ [o]) = fun o => ((p.find? fun w => decide (o ∈ stL n ps ws (lst w) b)).map fun w => w ++ [o]).or (if o ∈ stL n ps ws (lst w) b then some (w ++ [o]) else none) := by
        funext o
        rw [List.find?_append, Option.map_or]
        congr 1
        by_cases z : o ∈ stL n ps ws (lst w) b <;> simp [List.find?_cons, z]
      rw [this]; exact ok1)
  refine ⟨L, x', y', e, ok'.nd, ok'.rm, fun o => ?_⟩
  rw [ok'.lk]
  exact fw_step b o
theorem range_at {k : Nat} {p q : List Nat} {i : Nat} (h : List.range k = p ++ i :: q) : i = p.length ∧ p.length < k := by
  have h1 := congrArg List.length h
  simp at h1
  have h2 := congrArg (fun l => l[p.length]?) h
  simp at h2
  have hlt : p.length < k := by omega
  rw [List.getElem?_eq_getElem (by simpa using hlt)] at h2
  exact ⟨by simpa using h2.symm, hlt⟩
/-- the dicts, beat by beat -/
def WsB (n : Int) (ps : List (Int × Int)) (ws : List Wt) (ds : List (List (Int × List Int))) : Prop := ∀ b l, ds[b]? = some l → WOk n ps ws b l
theorem ways_by_beat_t (h : HsOk n ps) (hw : ∀ w ∈ ws, WtOk n ps w) (k : Nat) (hk : k ≤ 50) : ∃ ds, m_ways_by_beat [hous n ps, .tuple (ws.map encW), .int ((k : Nat) + 1)] = .ok (.list (ds.map wdict)) [none, none, none] ∧ ds.length = k + 1 ∧ WsB n ps ws ds := by
  have hn : 0 < n := by have := h.lo; omega
  have ok0 : WOk n ps ws 0 [((0 : Int), [(0 : Int)])] := ⟨by simp, by simp; exact hn, fun o => by
    rw [lookA_cons, lookA_nil]
    unfold fw gw
    by_cases q : (0 : Int) = o <;> simp [lst, q]⟩
  obtain ⟨ρ', e, ds, bt, lt, x, y, rfl, hds, ok⟩ := forGo_pre (T := .nm 4) (body := fb_ways_by_beat_1) (fun i : Nat => PyData.int ((i : Nat) : Int)) (fun pre ρ => ∃ ds bt lt x y, ρ = [some (hous n ps), some (.tuple (ws.map encW)), some (.int ((k : Nat) + 1)), some (.list (ds.map wdict)), bt, lt, x, y] ∧ ds.length = pre.length + 1 ∧ WsB n ps ws ds) (List.range k) [] [some (hous n ps), some (.tuple (ws.map encW)), some (.int ((k : Nat) + 1)), some (.list [wdict [((0 : Int), [(0 : Int)])]]), none, none, none, none] ⟨[[((0 : Int), [(0 : Int)])]], none, none, none, none, rfl, rfl, fun b l e => by
      cases b with
      | zero => simp at e; subst e; exact ok0
      | succ b => simp at e⟩ (by
    rintro p i q ρ hp ⟨ds, bt, lt, x, y, rfl, hds, ok⟩
    obtain ⟨rfl, hlt⟩ := range_at hp
    obtain ⟨us, l, rfl⟩ : ∃ us l, ds = us ++ [l] := ⟨ds.dropLast, ds.getLast (fun e => by rw [e] at hds; simp at hds), (List.dropLast_concat_getLast _).symm⟩
    have hus : us.length = p.length := by simpa using hds
    have okl : WOk n ps ws p.length l := ok _ l (by rw [← hus]; simp)
    have ix : ixD (.list ((us ++ [l]).map wdict)) (.int (-1)) = some (wdict l) := by
      show L2.atI _ (-1) = _
      rw [List.map_append]
      exact L2.atI_last _ _
    have lv := listV_i (f := wayD) (l := l)
    have lv' : (l.map fun p => wayD p.2) = (l.map (·.2)).map wayD := by simp
    have so := sort_ways (okl.vals hn) ((gw_up hn p.length).filter _) (fun w hw' => by
      have := (okl.vals hn).mem_iff.mpr hw'
      have := (ways_ok hn _ (gw_ways (List.mem_filter.mp this).1)).1
      intro e; rw [e] at this; simp at this)
    rw [lv'] at lv
    obtain ⟨L, x', y', e1, ok1⟩ := wb_mid h hw p.length (by omega) (some (.int ((k : Nat) + 1))) (some (.list ((us ++ [l]).map wdict))) x y
    have hlen : ((us ++ [l]).map wdict).length < lim := by rw [List.length_map, hds]; show _ < 1000000; omega
    refine ⟨[some (hous n ps), some (.tuple (ws.map encW)), some (.int ((k : Nat) + 1)), some (.list ((us ++ [l]).map wdict)), some (.int (p.length : Nat)), lt, x, y], [some (hous n ps), some (.tuple (ws.map encW)), some (.int ((k : Nat) + 1)), some (.list (((us ++ [l]) ++ [L]).map wdict)), some (.int (p.length : Nat)), none, x', y'], by simp [bindT], .inl ?_, (us ++ [l]) ++ [L], _, _, _, _, rfl, by simp [hus], fun b l' e => ?_⟩
    · have hi : (iOf (eOpN sortD (aCons (oVal (eOp1 listV (oVal (eOp2 ixD (oSlot 3) (oVal (eOp1 negD (oVal (eC (.int 1))))))))) aNil))) [some (hous n ps), some (.tuple (ws.map encW)), some (.int ((k : Nat) + 1)), some (.list ((us ++ [l]).map wdict)), some (.int (p.length : Nat)), some (wdict []), x, y] = .ok ((firsts n ps ws p.length).map wayD) [some (hous n ps), some (.tuple (ws.map encW)), some (.int ((k : Nat) + 1)), some (.list ((us ++ [l]).map wdict)), some (.int (p.length : Nat)), some (wdict []), x, y] := by
        simp only [ev_iOf, ev_eOpN, ev_aCons, ev_oVal, ev_eOp1, ev_eOp2, ev_oSlot, ev_slotS, ev_slot0, bnd_ok, ev_eC, ev_val, negD, ofO_some, ev_op2, ev_io, ix, lv, ev_aNil, derefs, Option.bind_some, Option.map_some, so, itemsD]
      rw [fb_ways_by_beat_1, ev_sSeq, show sSet 5 eDict0 [some (hous n ps), some (.tuple (ws.map encW)), some (.int ((k : Nat) + 1)), some (.list ((us ++ [l]).map wdict)), some (.int (p.length : Nat)), lt, x, y] = .nx [some (hous n ps), some (.tuple (ws.map encW)), some (.int ((k : Nat) + 1)), some (.list ((us ++ [l]).map wdict)), some (.int (p.length : Nat)), some (wdict []), x, y] from rfl, sThen_nx, ev_sSeq, sFor_ok hi, e1, sThen_nx]
      have hl2 : ((us ++ [l]).map wdict ++ [wdict L]).length ≤ lim := by rw [List.length_append]; exact hlen
      rw [show ((us ++ [l] ++ [L]).map wdict) = (us ++ [l]).map wdict ++ [wdict L] by rw [List.map_append]; rfl]
      generalize (us ++ [l]).map wdict = md at hlen hl2 ⊢
      simp [eMut, eMov, valsOf, appD, hlen, show md.length + 1 ≤ lim from hlen]
    · by_cases z : b < (us ++ [l]).length
      · rw [List.getElem?_append_left z] at e
        exact ok b l' e
      · have hb : b = (us ++ [l]).length := by
          have := (List.getElem?_eq_some_iff.mp e).1
          simp at this z ⊢
          omega
        subst hb
        rw [List.getElem?_concat_length] at e
        cases e
        rw [show (us ++ [l]).length = p.length + 1 by simp [hus]]
        exact ok1)
  have rg := rgI_ok (a := 0) (b := (k : Int)) (by omega) (by omega)
  have sb := sub1 (k : Int)
  have hi : (iRg1 (eOp2 subD (oVal (eVar 2)) (oVal (eC (.int 1))))) [some (hous n ps), some (.tuple (ws.map encW)), some (.int ((k : Nat) + 1)), some (.list [wdict [((0 : Int), [(0 : Int)])]]), none, none, none, none] = .ok ((List.range k).map fun i : Nat => PyData.int ((i : Nat) : Int)) [some (hous n ps), some (.tuple (ws.map encW)), some (.int ((k : Nat) + 1)), some (.list [wdict [((0 : Int), [(0 : Int)])]]), none, none, none, none] := by
    rw [← rgD0]
    simp [sb, rg]
  have hb : body_ways_by_beat [some (hous n ps), some (.tuple (ws.map encW)), some (.int ((k : Nat) + 1)), none, none, none, none, none] = .ret (.list (ds.map wdict)) [some (hous n ps), some (.tuple (ws.map encW)), some (.int ((k : Nat) + 1)), none, bt, lt, x, y] := by
    have e0 : (sSet 3 (eLst (aCons (oVal (eDict1 (eC (.int 0)) (eTup (aCons (oVal (eC (.int 0))) aNil)))) aNil))) [some (hous n ps), some (.tuple (ws.map encW)), some (.int ((k : Nat) + 1)), none, none, none, none, none] = .nx [some (hous n ps), some (.tuple (ws.map encW)), some (.int ((k : Nat) + 1)), some (.list [wdict [((0 : Int), [(0 : Int)])]]), none, none, none, none] := rfl
    rw [body_ways_by_beat, ev_sSeq, e0, sThen_nx, ev_sSeq, sFor_ok hi, e, sThen_nx]
    rfl
  exact ⟨ds, fnM_ret hb, by simpa using hds, ok⟩
end
end U

set_option maxRecDepth 100000
set_option linter.all false
set_option maxHeartbeats 4000000
namespace U
open PySem PySem.Spec PyProof.Rows L2 RZ PD
open PySem.W (dataLt alike alikeAll keyToks keyToksAll)
section
variable {n : Int} {ps : List (Int × Int)} {ws : List Wt}
/-- the rooms open in a beat -/
def opn (n : Int) (ps : List (Int × Int)) (ws : List Wt) (b : Nat) : List Int := (rooms n).filter fun r => (fw n ps ws b r).isSome
theorem opn_up (b : Nat) : (opn n ps ws b).Pairwise (· < ·) := (rooms_up n).filter _
theorem WOk.open {b : Nat} {l : List (Int × List Int)} (h : WOk n ps ws b l) : (opn n ps ws b).Perm (l.map (·.1)) := by
  refine (List.perm_ext_iff_of_nodup (up_nodup (opn_up b)) h.nd).mpr fun r => ?_
  unfold opn
  rw [List.mem_filter, mem_rooms, ← h.lk, lookA_some_iff]
  exact ⟨fun z => z.2, fun z => ⟨h.rm r z, z⟩⟩
theorem WOk.sort {b : Nat} {l : List (Int × List Int)} (h : WOk n ps ws b l) : sortD [intsL (l.map (·.1))] = some (intsL (opn n ps ws b)) := sort_ints h.open (up_le (opn_up b))
theorem mem_opn (hn : 0 < n) {b : Nat} {r : Int} : r ∈ opn n ps ws b ↔ ∃ w ∈ gw n ps ws b, lst w = r := by
  unfold opn
  rw [List.mem_filter, mem_rooms]
  constructor
  · rintro ⟨_, h⟩
    obtain ⟨w, hw⟩ := Option.isSome_iff_exists.mp h
    exact ⟨w, fw_some hw⟩
  · rintro ⟨w, hw, rfl⟩
    refine ⟨(ways_ok hn b (gw_ways hw)).2, ?_⟩
    unfold fw
    rw [List.find?_isSome]
    exact ⟨w, hw, by simp⟩
theorem opn_ce (hn : 0 < n) {b : Nat} {r : Int} : r ∈ opn n ps ws b ↔ ce n ps ws b r ≠ 0 := by
  rw [mem_opn hn]
  unfold ce
  rw [Nat.ne_zero_iff_zero_lt, List.countP_pos_iff]
  simp
theorem tupleD_ints (l : List Int) : tupleD [intsL l] = some (wayD l) := rfl
theorem whole_ok (ρ : PD.Env) (i lo hi : Int) (h : lo ≤ i ∧ i ≤ hi) : callM 3 none m_is_whole [.val (.int i), .val (.int lo), .val (.int hi)] ρ = .ok (.bool true) ρ := by
  rw [whole_c, decide_eq_true h.1, decide_eq_true h.2]; rfl
theorem ds_last {ds : List (List (Int × List Int))} {k : Nat} (hl : ds.length = k + 1) (ok : WsB n ps ws ds) : ∃ l, ixD (.list (ds.map wdict)) (.int (-1)) = some (wdict l) ∧ WOk n ps ws k l := by
  obtain ⟨us, l, rfl⟩ : ∃ us l, ds = us ++ [l] := ⟨ds.dropLast, ds.getLast (fun e => by rw [e] at hl; simp at hl), (List.dropLast_concat_getLast _).symm⟩
  refine ⟨l, ?_, ok k l (by rw [show k = us.length by simp at hl; omega, List.getElem?_concat_length])⟩
  show L2.atI _ (-1) = _
  rw [List.map_append]
  exact L2.atI_last _ _
theorem open_rooms_t (h : HsOk n ps) (hw : WsOk n ps ws) (k : Nat) (hk : k ≤ 30) : m_open_rooms [hous n ps, .tuple (ws.map encW), .int (k : Nat)] = .ok (wayD (opn n ps ws k)) [none, none, none] := by
  obtain ⟨ds, e, hl, ok⟩ := ways_by_beat_t h hw.ok k (by omega)
  obtain ⟨l, e2, okl⟩ := ds_last hl ok
  have c1 := fun ρ => call2 (ρ := ρ) (need_watchers_t h hw)
  have c2 := fun ρ => whole_ok ρ (k : Nat) 0 30 ⟨by omega, by omega⟩
  have c3 := fun ρ => call3 (ρ := ρ) e
  have lk := listK_i (f := wayD) (l := l)
  have so := okl.sort
  simp [m_open_rooms, fnM, outE, body_open_rooms, c1, c2, boolD, addI, c3, negD, e2, derefs, lk, so, tupleD_ints]
theorem need_all_t (h : HsOk n ps) (hw : WsOk n ps ws) {g : Int} (hg : 1 ≤ g ∧ g < n) (k : Nat) (hk : k ≤ 29) : m_need_all [hous n ps, .tuple (ws.map encW), .int g, .int ((k : Nat) + 1)] = .ok .none [none, none, none, none] := by
  have c1 := fun ρ => call2 (ρ := ρ) (need_watchers_t h hw)
  have c2 := fun ρ => call2 (ρ := ρ) (need_goal_t (ps := ps) hg)
  have c3 := fun ρ => whole_ok ρ ((k : Nat) + 1) 1 30 ⟨by omega, by omega⟩
  simp [m_need_all, fnM, outE, body_need_all, c1, c2, c3, boolD]
theorem ds_look {ds : List (List (Int × List Int))} {k : Nat} (hl : ds.length = k + 1) (ok : WsB n ps ws ds) (g : Int) : ds.map (fun l => lookA l g) = (List.range (k + 1)).map fun b => fw n ps ws b g := by
  refine List.ext_getElem? fun b => ?_
  rw [List.getElem?_map, List.getElem?_map]
  by_cases h : b < k + 1
  · rw [List.getElem?_range h, List.getElem?_eq_getElem (by omega)]
    have := (ok b _ (List.getElem?_eq_getElem (by omega))).lk g
    simp [this]
  · rw [List.getElem?_eq_none (by omega), List.getElem?_eq_none (by simp; omega)]; rfl
/-- the shortest unseen way to a room, the least one -/
def uns (n : Int) (ps : List (Int × Int)) (ws : List Wt) (k : Nat) (g : Int) : Option (List Int) := (List.range (k + 1)).findSome? fun b => fw n ps ws b g
def optW : Option (List Int) → D
  | none => .none
  | some w => wayD w
theorem filter_look {β : Type} (f : β → D) (g : Int) : ∀ ds : List (List (Int × β)), (ds.filter fun l => decide (g ∈ l.map (·.1))).map (fun l => ((lookA l g).map f).getD .none) = (ds.filterMap fun l => lookA l g).map f
  | [] => rfl
  | l :: ds => by
    rw [List.filter_cons, List.filterMap_cons]
    have ih := filter_look f g ds
    cases e : lookA l g with
    | none =>
      have : ¬ g ∈ l.map (·.1) := fun z => by rw [← lookA_some_iff, e] at z; cases z
      rw [if_neg (by simpa using this)]
      exact ih
    | some v =>
      have : g ∈ l.map (·.1) := lookA_some_iff.mp (by rw [e]; rfl)
      rw [if_pos (by simpa using this), List.map_cons, ih, e]; rfl
theorem unseen_t (h : HsOk n ps) (hw : WsOk n ps ws) {g : Int} (hg : 1 ≤ g ∧ g < n) (k : Nat) (hk : k ≤ 29) : m_unseen [hous n ps, .tuple (ws.map encW), .int g, .int ((k : Nat) + 1)] = .ok (optW (uns n ps ws k g)) [none, none, none, none] := by
  obtain ⟨ds, e, hl, ok⟩ := ways_by_beat_t h hw.ok k (by omega)
  have c1 := fun ρ => call4 (ρ := ρ) (need_all_t h hw hg k hk)
  have c3 := fun ρ => call3 (ρ := ρ) e
  have lc : ∀ x, lcGo (.nm 5) lt_unseen_1 le_unseen_1 [5] (ds.map wdict) [some (hous n ps), some (.tuple (ws.map encW)), some (.int g), some (.int ((k : Nat) + 1)), x, none] = .ok ((ds.filter fun l => decide (g ∈ l.map (·.1))).map fun l => ((lookA l g).map wayD).getD .none) [some (hous n ps), some (.tuple (ws.map encW)), some (.int g), some (.int ((k : Nat) + 1)), x, none] := fun x =>
    lcGo_filterT wdict _ _ ds fun l _ => by
      have i1 := inK_i (f := wayD) (l := l) g
      have i2 := ixK_i (f := wayD) (l := l) g
      refine ⟨[some (hous n ps), some (.tuple (ws.map encW)), some (.int g), some (.int ((k : Nat) + 1)), x, some (wdict l)], [some (hous n ps), some (.tuple (ws.map encW)), some (.int g), some (.int ((k : Nat) + 1)), x, some (wdict l)], by simp [bindT], by simp [lt_unseen_1, i1, boolD], fun _ => by simp [wipeD], fun q => ⟨[some (hous n ps), some (.tuple (ws.map encW)), some (.int g), some (.int ((k : Nat) + 1)), x, some (wdict l)], ?_, by simp [wipeD]⟩⟩
      rw [decide_eq_true_eq, ← lookA_some_iff] at q
      obtain ⟨v, hv⟩ := Option.isSome_iff_exists.mp q
      rw [hv] at i2
      simp [le_unseen_1, i2, hv]
  rw [filter_look] at lc
  have el : (ds.filterMap fun l => lookA l g) = (List.range (k + 1)).filterMap fun b => fw n ps ws b g := by
    have := congrArg (fun l => l.filterMap id) (ds_look hl ok g)
    simpa [List.filterMap_map] using this
  have hh : (ds.filterMap fun l => lookA l g).head? = uns n ps ws k g := by rw [el, List.head?_filterMap]; rfl
  have hlen : (ds.filterMap fun l => lookA l g).length ≤ 1000 := by
    have := List.length_filterMap_le (fun l => lookA l g) ds
    omega
  generalize (ds.filterMap fun l => lookA l g) = L at lc hh hlen
  have ad : addD (.list (L.map wayD)) (.list [.none]) = some (.list (L.map wayD ++ [.none])) := addL (by rw [List.length_map]; show _ ≤ 1000000; simp; omega)
  have ix : ixD (.list (L.map wayD ++ [.none])) (.int 0) = some (optW (uns n ps ws k g)) := by
    rw [← hh]
    cases L with
    | nil => rfl
    | cons w L => exact atI0
  simp [m_unseen, fnM, outE, body_unseen, c1, c3, itemsD, wipeD, lc, resD, valsOf, lim, ad, ix]
theorem is_barred_t (h : HsOk n ps) (hw : ∀ w ∈ ws, WtOk n ps w) (g : Int) (k : Nat) (hk : k ≤ 50) : m_is_barred [hous n ps, .tuple (ws.map encW), .int g, .int ((k : Nat) + 1)] = .ok (.bool !((List.range (k + 1)).any fun b => (fw n ps ws b g).isSome)) [none, none, none, none] := by
  obtain ⟨ds, e, hl, ok⟩ := ways_by_beat_t h hw k hk
  have c3 := fun ρ => call3 (ρ := ρ) e
  have lc : lcGo (.nm 4) bYes le_is_barred_1 [4] (ds.map wdict) [some (hous n ps), some (.tuple (ws.map encW)), some (.int g), some (.int ((k : Nat) + 1)), none] = .ok (ds.map fun l => .bool (lookA l g).isSome) [some (hous n ps), some (.tuple (ws.map encW)), some (.int g), some (.int ((k : Nat) + 1)), none] :=
    lcGo_mapT wdict _ ds fun l _ => by
      have i1 := inK_i (f := wayD) (l := l) g
      have : decide (g ∈ l.map (·.1)) = (lookA l g).isSome := by rw [Bool.eq_iff_iff, decide_eq_true_eq, lookA_some_iff]
      rw [this] at i1
      exact ⟨[some (hous n ps), some (.tuple (ws.map encW)), some (.int g), some (.int ((k : Nat) + 1)), some (wdict l)], [some (hous n ps), some (.tuple (ws.map encW)), some (.int g), some (.int ((k : Nat) + 1)), some (wdict l)], by simp [bindT], by simp [le_is_barred_1, i1], by simp [wipeD]⟩
  have an := anyD_map (fun l => (lookA l g).isSome) ds
  have el : (ds.any fun l => (lookA l g).isSome) = (List.range (k + 1)).any fun b => (fw n ps ws b g).isSome := by
    have := congrArg (fun l => l.any Option.isSome) (ds_look hl ok g)
    simpa [List.any_map, Function.comp_def] using this
  rw [el] at an
  simp [m_is_barred, fnM, outE, body_is_barred, c3, itemsD, wipeD, lc, resD, derefs, an]
end
end U

set_option maxRecDepth 100000
set_option linter.all false
set_option maxHeartbeats 4000000
namespace U
open PySem PySem.Spec PyProof.Rows L2 RZ PD
open PySem.W (dataLt alike alikeAll keyToks keyToksAll)
/-! ### sorted(set(..)), typed -/
section
variable {α : Type} [DecidableEq α]
def ddp (xs : List α) : List α := xs.foldr (fun x acc => x :: acc.filter fun y => !decide (y = x)) []
theorem mem_ddp {xs : List α} {z : α} : z ∈ ddp xs ↔ z ∈ xs := by
  induction xs with
  | nil => exact Iff.rfl
  | cons x xs ih =>
    show z ∈ x :: (ddp xs).filter _ ↔ _
    rw [List.mem_cons, List.mem_cons, List.mem_filter, ih]
    by_cases h : z = x <;> simp [h]
theorem ddp_nodup (xs : List α) : (ddp xs).Nodup := by
  induction xs with
  | nil => simp [ddp]
  | cons x xs ih =>
    show (x :: (ddp xs).filter _).Nodup
    rw [List.nodup_cons]
    exact ⟨fun h => by simp [List.mem_filter] at h, ih.filter _⟩
theorem ddp_len (xs : List α) : (ddp xs).length ≤ xs.length := by
  induction xs with
  | nil => exact Nat.le_refl _
  | cons x xs ih =>
    show (x :: (ddp xs).filter _).length ≤ _
    rw [List.length_cons, List.length_cons]
    have := List.length_filter_le (fun y => !decide (y = x)) (ddp xs)
    omega
theorem sset_typed (enc : α → D) (inj : ∀ a b, enc a = enc b → a = b) (pl : ∀ x, plainK (enc x) = true) (al : ∀ x y, alike (enc x) (enc y) = true) (sh : ∀ x, shp 3 (enc x) = true) (tp : ∀ x, neTup (enc x) = true) (xs : List α) (hl : xs.length < 64) :
    ∃ ys : List α, ssetD [.tuple (xs.map enc)] = some (.list (ys.map enc)) ∧ ssetD [.list (xs.map enc)] = some (.list (ys.map enc)) ∧ (∀ x, x ∈ ys ↔ x ∈ xs) ∧ ys.length ≤ xs.length ∧ ys.Pairwise fun a b => dataLt (enc a) (enc b) = true := by
  have tup : ∀ x, isTupD (enc x) = true := fun x => by
    have := tp x
    cases h : enc x <;> rw [h] at this <;> first | rfl | cases this
  have so : setOk (xs.map enc) = true := by
    unfold setOk
    rw [Bool.and_eq_true, decide_eq_true_eq, List.length_map]
    refine ⟨List.all_eq_true.mpr fun d hd => ?_, hl⟩
    obtain ⟨x, _, rfl⟩ := List.mem_map.mp hd
    rw [Bool.and_eq_true, Bool.and_eq_true, decide_eq_true_eq]
    have := (shp_lay 3 _ (sh x)).2
    exact ⟨⟨tup x, pl x⟩, by omega⟩
  have mo : memOk (xs.map enc) = true := by unfold memOk; rw [so]; rfl
  have de : dedupD (xs.map enc) = (ddp xs).map enc := dedupD_map enc (fun x y h => inj x y (nkey_inj (pl x) (pl y) h)) xs
  have st : sortOk ((ddp xs).map enc) = true := by
    unfold sortOk
    rw [Bool.and_eq_true, Bool.and_eq_true, Bool.or_eq_true]
    refine ⟨⟨List.all_eq_true.mpr fun d hd => ?_, List.all_eq_true.mpr fun a ha => List.all_eq_true.mpr fun b hb => ?_⟩, .inl (List.all_eq_true.mpr fun d hd => ?_)⟩
    · obtain ⟨x, _, rfl⟩ := List.mem_map.mp hd
      exact shaped_of (sh x) (by decide)
    · obtain ⟨x, _, rfl⟩ := List.mem_map.mp ha
      obtain ⟨y, _, rfl⟩ := List.mem_map.mp hb
      exact al x y
    · obtain ⟨x, _, rfl⟩ := List.mem_map.mp hd
      exact tp x
  have ms : ((ddp xs).mergeSort fun a b => dleD (enc a) (enc b)).map enc = ((ddp xs).map enc).mergeSort dleD := List.map_mergeSort fun a _ b _ => rfl
  have e : (if sortOk (dedupD (xs.map enc)) = true then some (PyData.list ((dedupD (xs.map enc)).mergeSort dleD)) else none) = some (.list (((ddp xs).mergeSort fun a b => dleD (enc a) (enc b)).map enc)) := by
    rw [de, if_pos st, ms]
  refine ⟨(ddp xs).mergeSort fun a b => dleD (enc a) (enc b), ?_, ?_, fun x => by rw [(List.mergeSort_perm _ _).mem_iff, mem_ddp], by rw [(List.mergeSort_perm _ _).length_eq]; exact ddp_len xs, ?_⟩
  · show (if memOk (xs.map enc) = true then some (xs.map enc) else none).bind _ = _
    rw [if_pos mo]; exact e
  · show (if memOk (xs.map enc) = true then some (xs.map enc) else none).bind _ = _
    rw [if_pos mo]; exact e
  · rw [← List.pairwise_map (f := enc) (R := fun a b => dataLt a b = true), ms]
    refine sorted_rising ?_
    rw [List.pairwise_map]
    refine (ddp_nodup xs).imp fun {a b} ne => toks_ne (al a b) ?_
    cases q : PyData.eqv (enc a) (enc b) with
    | false => rfl
    | true => exact absurd (inj a b ((eqv_iff (pl a) (pl b)).mp q)) ne
end
theorem encS_plain (s : Sp) : plainK (encS s) = true := by cases s <;> simp [encS, plainK, plainKs]
theorem encW_plain (w : Wt) : plainK (encW w) = true := by
  have := encS_plain w.1
  simp [encW, plainK, plainKs, this]
theorem shp_up {n m : Nat} (h : n ≤ m) : ∀ {d : D}, shp n d = true → shp m d = true := by
  have go : ∀ (m : Nat) (d : D), shp m d = true → shp (m + 1) d = true := by
    intro m
    induction m with
    | zero => intro d h; cases d <;> simp_all [shp]
    | succ m ih =>
      intro d h
      cases d with
      | list ds => rw [shp] at h ⊢; exact shpAll_iff.mpr fun e he => ih e (shpAll_iff.mp h e he)
      | tuple ds => rw [shp] at h ⊢; exact shpAll_iff.mpr fun e he => ih e (shpAll_iff.mp h e he)
      | _ => simpa [shp] using h
  intro d hd
  obtain ⟨k, rfl⟩ := Nat.le.dest h
  clear h
  induction k with
  | zero => exact hd
  | succ k ih => exact go _ _ ih
theorem sset_ws (xs : List Wt) (hl : xs.length < 64) : ∃ ys : List Wt, ssetD [.tuple (xs.map encW)] = some (.list (ys.map encW)) ∧ ssetD [.list (xs.map encW)] = some (.list (ys.map encW)) ∧ (∀ x, x ∈ ys ↔ x ∈ xs) ∧ ys.length ≤ xs.length ∧ ys.Pairwise fun a b => dataLt (encW a) (encW b) = true :=
  sset_typed encW (fun _ _ => encW_inj) encW_plain encW_alike (fun x => shp_up (by decide) (encW_shp x)) (fun _ => rfl) xs hl
theorem sset_sp (xs : List Sp) (hl : xs.length < 64) : ∃ ys : List Sp, ssetD [.tuple (xs.map encS)] = some (.list (ys.map encS)) ∧ ssetD [.list (xs.map encS)] = some (.list (ys.map encS)) ∧ (∀ x, x ∈ ys ↔ x ∈ xs) ∧ ys.length ≤ xs.length ∧ ys.Pairwise fun a b => dataLt (encS a) (encS b) = true :=
  sset_typed encS (fun _ _ => encS_inj) encS_plain encS_alike (fun x => shp_up (by decide) (encS_shp x)) (fun x => by cases x <;> rfl) xs hl
/-! ### only who sees counts -/
section
variable {n : Int} {ps : List (Int × Int)} {ws ws' : List Wt}
theorem seen_iff {z : Option Sp} {k : Int} : seen ws z k = true ↔ ∃ w ∈ ws, seesO w z k = true := by simp [seen]
theorem seen_same (h : ∀ w, w ∈ ws ↔ w ∈ ws') (z : Option Sp) (k : Int) : seen ws z k = seen ws' z k := by
  rw [Bool.eq_iff_iff, seen_iff, seen_iff]
  simp [h]
theorem stp_same (h : ∀ z k, seen ws z k = seen ws' z k) (a b k : Int) : stp ws a b k = stp ws' a b k := by
  unfold stp; rw [h, h]
theorem gw_same (h : ∀ z k, seen ws z k = seen ws' z k) : ∀ b : Nat, gw n ps ws b = gw n ps ws' b
  | 0 => rfl
  | b + 1 => by
    rw [gw, gw, gw_same h b]
    refine flatMap_cong fun w _ => ?_
    congr 1
    exact List.filter_congr fun o _ => stp_same h _ _ _
theorem fw_same (h : ∀ z k, seen ws z k = seen ws' z k) (b : Nat) (r : Int) : fw n ps ws b r = fw n ps ws' b r := by
  unfold fw; rw [gw_same h]
theorem opn_same (h : ∀ z k, seen ws z k = seen ws' z k) (b : Nat) : opn n ps ws b = opn n ps ws' b := by
  unfold opn
  exact List.filter_congr fun r _ => by rw [fw_same h]
theorem mem_opn_succ (hn : 0 < n) {b : Nat} {o : Int} : o ∈ opn n ps ws (b + 1) ↔ ∃ r ∈ opn n ps ws b, o ∈ stL n ps ws r b := by
  rw [mem_opn hn]
  constructor
  · rintro ⟨w, hw, rfl⟩
    rw [gw, List.mem_flatMap] at hw
    obtain ⟨v, hv, hw⟩ := hw
    obtain ⟨o, ho, rfl⟩ := List.mem_map.mp hw
    rw [lst_snoc]
    exact ⟨lst v, (mem_opn hn).mpr ⟨v, hv, rfl⟩, ho⟩
  · rintro ⟨r, hr, ho⟩
    obtain ⟨v, hv, rfl⟩ := (mem_opn hn).mp hr
    refine ⟨v ++ [o], ?_, lst_snoc _ _⟩
    rw [gw, List.mem_flatMap]
    exact ⟨v, hv, List.mem_map.mpr ⟨o, ho, rfl⟩⟩
end
end U

set_option maxRecDepth 100000
set_option linter.all false
set_option maxHeartbeats 4000000
namespace U
open PySem PySem.Spec PyProof.Rows L2 RZ PD
open PySem.W (dataLt alike alikeAll keyToks keyToksAll)
theorem eqvAll_map {α : Type} [DecidableEq α] (enc : α → D) (inj : ∀ a b, enc a = enc b → a = b) (pl : ∀ x, plainK (enc x) = true) : ∀ xs ys : List α, PyData.eqvAll (xs.map enc) (ys.map enc) = decide (xs = ys)
  | [], [] => by simp [PyData.eqvAll]
  | [], _ :: _ => by simp [PyData.eqvAll]
  | _ :: _, [] => by simp [PyData.eqvAll]
  | x :: xs, y :: ys => by
    rw [List.map_cons, List.map_cons, PyData.eqvAll, eqvAll_map enc inj pl xs ys]
    have : PyData.eqv (enc x) (enc y) = decide (x = y) := by
      rw [Bool.eq_iff_iff, eqv_iff (pl x) (pl y), decide_eq_true_eq]
      exact ⟨inj x y, fun e => by rw [e]⟩
    rw [this, ← Bool.decide_and]
    congr 1
    simp
theorem eqvL {α : Type} [DecidableEq α] (enc : α → D) (inj : ∀ a b, enc a = enc b → a = b) (pl : ∀ x, plainK (enc x) = true) (xs ys : List α) : PyData.eqv (.list (xs.map enc)) (.list (ys.map enc)) = decide (xs = ys) := by
  rw [PyData.eqv, eqvAll_map enc inj pl]
theorem eqvT {α : Type} [DecidableEq α] (enc : α → D) (inj : ∀ a b, enc a = enc b → a = b) (pl : ∀ x, plainK (enc x) = true) (xs ys : List α) : PyData.eqv (.tuple (xs.map enc)) (.tuple (ys.map enc)) = decide (xs = ys) := by
  rw [PyData.eqv, eqvAll_map enc inj pl]
theorem map_shp {α : Type} (enc : α → D) {m : Nat} (sh : ∀ x, shp m (enc x) = true) (xs : List α) : shp (m + 1) (.list (xs.map enc)) = true ∧ shp (m + 1) (.tuple (xs.map enc)) = true := by
  have : shpAll m (xs.map enc) = true := shpAll_iff.mpr fun d hd => by obtain ⟨x, _, rfl⟩ := List.mem_map.mp hd; exact sh x
  exact ⟨this, this⟩
theorem any_eqv {α : Type} [DecidableEq α] (enc : α → D) (inj : ∀ a b, enc a = enc b → a = b) (pl : ∀ x, plainK (enc x) = true) (xs : List α) (y : α) : ((xs.map enc).any fun z => PyData.eqv z (enc y)) = decide (y ∈ xs) := by
  rw [Bool.eq_iff_iff, List.any_eq_true, decide_eq_true_eq]
  constructor
  · rintro ⟨z, hz, e⟩
    obtain ⟨x, hx, rfl⟩ := List.mem_map.mp hz
    rw [eqv_iff (pl x) (pl y)] at e
    exact inj _ _ e ▸ hx
  · intro h
    exact ⟨enc y, List.mem_map.mpr ⟨y, h, rfl⟩, eqv_refl _ (pl y)⟩
theorem int_inj (a b : Int) (h : PyData.int a = .int b) : a = b := by simpa using h
theorem inD_ints (o : Int) (l : List Int) : inD (.int o) (intsL l) = some (.bool (decide (o ∈ l))) := by
  rw [inD_shp (k := 0) (m := 1) rfl (ints_shp l), any_eqv PyData.int int_inj (fun _ => rfl)]
theorem inD_intsT (o : Int) (l : List Int) : inD (.int o) (wayD l) = some (.bool (decide (o ∈ l))) := by
  show (if (SeqAt.shaped (.int o) && SeqAt.shaped (wayD l)) = true then some (PyData.bool _) else none) = _
  rw [shaped_of (n := 1) (way_shp l) (by decide), show SeqAt.shaped (.int o) = true from rfl, Bool.and_true, if_pos rfl, any_eqv PyData.int int_inj (fun _ => rfl)]
theorem notInD_ints (o : Int) (l : List Int) : notInD (.int o) (intsL l) = some (.bool !(decide (o ∈ l))) := by
  rw [notInD_shp (k := 0) (m := 1) rfl (ints_shp l), any_eqv PyData.int int_inj (fun _ => rfl)]
/-! ### spots, typed -/
def spotsT (n : Int) (ps : List (Int × Int)) : List Sp := (ps.map fun p => Sp.dr p.1 p.2) ++ (List.range (n - 1).toNat).map fun i => Sp.rm (1 + (i : Nat))
theorem spotsT_enc (n : Int) (ps : List (Int × Int)) : (spotsT n ps).map encS = spots n ps := by
  unfold spotsT spots rgD
  rw [List.map_append, List.map_map, List.map_map, List.map_map]
  rfl
theorem mem_spotsT {n : Int} {ps : List (Int × Int)} {s : Sp} : s ∈ spotsT n ps ↔ SpOk n ps s := by
  constructor
  · intro h
    obtain ⟨t, ht, e⟩ := mem_spots.mp ((spotsT_enc n ps) ▸ List.mem_map.mpr ⟨s, h, rfl⟩)
    rw [encS_inj e]; exact ht
  · intro h
    have := mem_spots.mpr ⟨s, h, rfl⟩
    rw [← spotsT_enc] at this
    obtain ⟨t, ht, e⟩ := List.mem_map.mp this
    rw [← encS_inj e]; exact ht
theorem door_room_lt (a b r : Int) : dataLt (encS (.dr a b)) (encS (.rm r)) = true := by
  unfold encS dspot rspot
  rw [PySem.W.dataLt_tuple, PySem.W.dataLt_cons (by simp [alike])]
  have : PyData.eqv (.str "door") (.str "room") = false := by simpa [PyData.eqv] using sne1
  rw [this, if_neg (by simp), PySem.W.dataLt_str]
  decide +kernel
theorem same_head (s : Str) (x y : List D) : dataLt (.tuple (.str s :: x)) (.tuple (.str s :: y)) = dataLt (.tuple x) (.tuple y) := by
  rw [PySem.W.dataLt_tuple, PySem.W.dataLt_cons (by simp [alike]), if_pos (by simp [PyData.eqv]), ← PySem.W.dataLt_tuple]
theorem spotsT_up {n : Int} {ps : List (Int × Int)} (h : HsOk n ps) : (spotsT n ps).Pairwise fun a b => dataLt (encS a) (encS b) = true := by
  unfold spotsT
  rw [List.pairwise_append]
  refine ⟨?_, ?_, fun x hx y hy => ?_⟩
  · rw [List.pairwise_map]
    have := h.ri
    rw [List.pairwise_map] at this
    refine this.imp fun {a b} e => ?_
    unfold encS dspot
    unfold door at e
    rw [same_head]
    exact e
  · rw [List.pairwise_map]
    refine List.pairwise_lt_range.imp fun {a b} e => ?_
    unfold encS rspot
    rw [same_head]
    have := way_lt [1 + ((a : Nat) : Int)] [1 + ((b : Nat) : Int)]
    rw [show dataLt (.tuple [.int (1 + (a : Nat))]) (.tuple [.int (1 + (b : Nat))]) = _ from this, decide_eq_true_eq, List.cons_lt_cons_iff]
    left; omega
  · obtain ⟨p, _, rfl⟩ := List.mem_map.mp hx
    obtain ⟨i, _, rfl⟩ := List.mem_map.mp hy
    exact door_room_lt _ _ _
theorem lt_le {a b : D} (h : dataLt a b = true) : dleD a b = true := by
  have := dle_total a b
  have h2 : dleD b a = false := by unfold dleD; rw [h]; rfl
  rw [h2, Bool.or_false] at this
  exact this
/-! ### the program's and the law's spots -/
theorem all_spots_t {n : Int} {ps : List (Int × Int)} (h : HsOk n ps) : m_all_spots [hous n ps] = .ok (.list ((spotsT n ps).map encS)) [none] := by
  rw [spotsT_enc]; exact all_spots_ok h
theorem law_spots_t {n : Int} {ps : List (Int × Int)} (h : HsOk n ps) : m__law_spots [hous n ps] = .ok (.list ((spotsT n ps).map encS)) [none] := by
  rw [law_spots_ok h, ← spotsT_enc]
  have := sort_typed encS (List.Perm.refl (spotsT n ps)) (fun x _ => encS_plain x) (fun x _ y _ => encS_alike x y) ((spotsT_up h).imp fun e => lt_le e)
  rw [this]
/-! ### one watcher more -/
theorem hash_bt : (Str.ofString "#" : Str) = bt [true] := by decide +kernel
def plus (ws : List Wt) (s : Sp) : List Wt := ws ++ [(s, [true])]
theorem plus_enc (ws : List Wt) (s : Sp) (hl : ws.length ≤ 100) : addD (.tuple (ws.map encW)) (.tuple [.tuple [encS s, .str "#"]]) = some (.tuple ((plus ws s).map encW)) := by
  rw [addT (by rw [List.length_map]; show _ ≤ 1000000; simp; omega), plus, List.map_append, hash_bt]; rfl
theorem plus_ok {n : Int} {ps : List (Int × Int)} {ws : List Wt} (hw : ∀ w ∈ ws, WtOk n ps w) {s : Sp} (hs : SpOk n ps s) : ∀ w ∈ plus ws s, WtOk n ps w := by
  intro w hm
  rcases List.mem_append.mp hm with hm | hm
  · exact hw w hm
  · rw [List.mem_singleton] at hm
    subst hm
    exact ⟨hs, Nat.le_refl 1, by show 1 ≤ 6; decide⟩
theorem with_one_t {n : Int} {ps : List (Int × Int)} {ws : List Wt} (hw : WsOk n ps ws) {s : Sp} (hs : SpOk n ps s) (hl : ws.length < 12) : ∃ ys, m_with_one [.tuple (ws.map encW), encS s] = .ok (.tuple (ys.map encW)) [none, none] ∧ ssetD [.tuple ((plus ws s).map encW)] = some (.list (ys.map encW)) ∧ WsOk n ps ys ∧ ∀ w, w ∈ ys ↔ w ∈ plus ws s := by
  obtain ⟨ys, e, _, hm, hle, up⟩ := sset_ws (plus ws s) (by unfold plus; simp; omega)
  have pe := plus_enc ws s (by omega)
  have hpl : (plus ws s).length = ws.length + 1 := by simp [plus]
  refine ⟨ys, ?_, e, ⟨fun w h => plus_ok hw.ok hs w ((hm w).mp h), by omega, up⟩, hm⟩
  simp [m_with_one, fnM, outE, body_with_one, valsOf, lim, pe, derefs, e, tupleD]
theorem one_more_t {n : Int} {ps : List (Int × Int)} (h : HsOk n ps) {ws : List Wt} (hw : WsOk n ps ws) (hl : ws.length < 12) {g : Int} (hg : 1 ≤ g ∧ g < n) (k : Nat) (hk : k ≤ 29) : m_one_more [hous n ps, .tuple (ws.map encW), .int g, .int ((k : Nat) + 1)] = .ok (.list (((spotsT n ps).filter fun s => !((List.range (k + 1)).any fun b => (fw n ps (plus ws s) b g).isSome)).map encS)) [none, none, none, none] := by
  have c1 := fun ρ => call4 (ρ := ρ) (need_all_t h hw hg k hk)
  have c2 := fun ρ => call1 (ρ := ρ) (all_spots_t h)
  have lc : lcGo (.nm 4) lt_one_more_1 le_one_more_1 [4] ((spotsT n ps).map encS) [some (hous n ps), some (.tuple (ws.map encW)), some (.int g), some (.int ((k : Nat) + 1)), none] = .ok (((spotsT n ps).filter fun s => !((List.range (k + 1)).any fun b => (fw n ps (plus ws s) b g).isSome)).map encS) [some (hous n ps), some (.tuple (ws.map encW)), some (.int g), some (.int ((k : Nat) + 1)), none] :=
    lcGo_filterT encS _ encS (spotsT n ps) fun s hs => by
      obtain ⟨ys, e, _, hy, hm⟩ := with_one_t hw (mem_spotsT.mp hs) hl
      have c3 := fun ρ => call2 (ρ := ρ) e
      have c4 := fun ρ => call4 (ρ := ρ) (is_barred_t h hy.ok g k (by omega))
      have fe : ∀ b, fw n ps ys b g = fw n ps (plus ws s) b g := fun b => fw_same (fun z k => seen_same hm z k) b g
      simp only [fe] at c4
      exact ⟨[some (hous n ps), some (.tuple (ws.map encW)), some (.int g), some (.int ((k : Nat) + 1)), some (encS s)], [some (hous n ps), some (.tuple (ws.map encW)), some (.int g), some (.int ((k : Nat) + 1)), some (encS s)], by simp [bindT], by simp [lt_one_more_1, c3, c4, boolD], fun _ => by simp [wipeD], fun _ => ⟨[some (hous n ps), some (.tuple (ws.map encW)), some (.int g), some (.int ((k : Nat) + 1)), some (encS s)], by simp [le_one_more_1], by simp [wipeD]⟩⟩
  have ne : ((ws.length : Int) == 12) = false := by rw [beq_eq_false_iff_ne]; omega
  simp [m_one_more, fnM, outE, body_one_more, c1, lenD, derefs, eqD_int, ne, boolD, c2, itemsD, wipeD, lc, resD]
/-! ### the paper -/
theorem paper_t {n : Int} {ps : List (Int × Int)} (h : HsOk n ps) {ws : List Wt} (hw : WsOk n ps ws) {g : Int} (hg : 1 ≤ g ∧ g < n) (k : Nat) (hk : k ≤ 29) : m_paper [hous n ps, .tuple (ws.map encW), .int g, .int ((k : Nat) + 1)] = .ok (if ((List.range (k + 1)).any fun b => decide (g ∈ opn n ps ws b)) = true then .none else .list ((List.range (k + 1)).map fun b => wayD (opn n ps ws b))) [none, none, none, none] := by
  obtain ⟨ds, e, hl, ok⟩ := ways_by_beat_t h hw.ok k (by omega)
  have c1 := fun ρ => call4 (ρ := ρ) (need_all_t h hw hg k hk)
  have c3 := fun ρ => call3 (ρ := ρ) e
  have ed : ds.map wdict = (List.range (k + 1)).map fun b => wdict (ds.getD b []) := by
    refine List.ext_getElem? fun b => ?_
    rw [List.getElem?_map, List.getElem?_map]
    by_cases hb : b < k + 1
    · rw [List.getElem?_range hb, List.getElem?_eq_getElem (by omega)]
      simp [List.getD_eq_getElem?_getD, List.getElem?_eq_getElem (show b < ds.length by omega)]
    · rw [List.getElem?_eq_none (by omega), List.getElem?_eq_none (by simp; omega)]; rfl
  have lc : ∀ x, lcGo (.nm 5) bYes le_paper_1 [5] (ds.map wdict) [some (hous n ps), some (.tuple (ws.map encW)), some (.int g), some (.int ((k : Nat) + 1)), x, none, none] = .ok ((List.range (k + 1)).map fun b => wayD (opn n ps ws b)) [some (hous n ps), some (.tuple (ws.map encW)), some (.int g), some (.int ((k : Nat) + 1)), x, none, none] := fun x => by
    rw [ed]
    refine lcGo_mapT (fun b => wdict (ds.getD b [])) (fun b => wayD (opn n ps ws b)) _ fun b hb => ?_
    rw [List.mem_range] at hb
    have okl := ok b (ds.getD b []) (by rw [List.getD_eq_getElem?_getD, List.getElem?_eq_getElem (show b < ds.length by omega)]; rfl)
    generalize ds.getD b [] = l at okl ⊢
    have so := okl.sort
    have lk := listK_i (f := wayD) (l := l)
    exact ⟨[some (hous n ps), some (.tuple (ws.map encW)), some (.int g), some (.int ((k : Nat) + 1)), x, some (wdict l), none], [some (hous n ps), some (.tuple (ws.map encW)), some (.int g), some (.int ((k : Nat) + 1)), x, some (wdict l), none], by simp [bindT], by simp [le_paper_1, derefs, lk, so, tupleD_ints], by simp [wipeD]⟩
  have l2 : lcGo (.nm 6) bYes le_paper_2 [6] ((List.range (k + 1)).map fun b => wayD (opn n ps ws b)) [some (hous n ps), some (.tuple (ws.map encW)), some (.int g), some (.int ((k : Nat) + 1)), some (.list ((List.range (k + 1)).map fun b => wayD (opn n ps ws b))), none, none] = .ok ((List.range (k + 1)).map fun b => .bool (decide (g ∈ opn n ps ws b))) [some (hous n ps), some (.tuple (ws.map encW)), some (.int g), some (.int ((k : Nat) + 1)), some (.list ((List.range (k + 1)).map fun b => wayD (opn n ps ws b))), none, none] :=
    lcGo_mapT (fun b => wayD (opn n ps ws b)) (fun b => .bool (decide (g ∈ opn n ps ws b))) _ fun b _ => by
      have i := inD_intsT g (opn n ps ws b)
      exact ⟨[some (hous n ps), some (.tuple (ws.map encW)), some (.int g), some (.int ((k : Nat) + 1)), some (.list ((List.range (k + 1)).map fun b => wayD (opn n ps ws b))), none, some (wayD (opn n ps ws b))], [some (hous n ps), some (.tuple (ws.map encW)), some (.int g), some (.int ((k : Nat) + 1)), some (.list ((List.range (k + 1)).map fun b => wayD (opn n ps ws b))), none, some (wayD (opn n ps ws b))], by simp [bindT], by simp [le_paper_2, i], by simp [wipeD]⟩
  have an := anyD_map (fun b => decide (g ∈ opn n ps ws b)) (List.range (k + 1))
  generalize ((List.range (k + 1)).map fun b => wayD (opn n ps ws b)) = M at lc l2 ⊢
  cases q : (List.range (k + 1)).any fun b => decide (g ∈ opn n ps ws b) <;> rw [q] at an <;> simp [m_paper, fnM, outE, body_paper, c1, c3, itemsD, wipeD, lc, resD, l2, derefs, an, boolD]
end U

set_option maxRecDepth 100000
set_option linter.all false
set_option maxHeartbeats 4000000
namespace U
open PySem PySem.Spec PyProof.Rows L2 RZ PD
open PySem.W (dataLt alike alikeAll keyToks keyToksAll)
section
variable {n : Int} {ps : List (Int × Int)} {ws : List Wt}
theorem law_open_in (h : HsOk n ps) (hw : ∀ w ∈ ws, WtOk n ps w) (b : Nat) (m rw_ : Option D) (r : Int) (hr : 0 ≤ r ∧ r < n) (L0 : List Int) (nd0 : L0.Nodup) (rm0 : ∀ x ∈ L0, 0 ≤ x ∧ x < n) (y : Option D) :
    ∃ L y', fb__law_open_2 [some (hous n ps), some (.tuple (ws.map encW)), m, rw_, some (.int (b : Nat)), some (intsL L0), some (.int r), y] = .nx [some (hous n ps), some (.tuple (ws.map encW)), m, rw_, some (.int (b : Nat)), some (intsL L), some (.int r), y'] ∧ L.Nodup ∧ (∀ x ∈ L, 0 ≤ x ∧ x < n) ∧ ∀ o, o ∈ L ↔ o ∈ L0 ∨ o ∈ stL n ps ws r b := by
  have c := fun ρ => call2 (ρ := ρ) (law_beside_t h hr)
  obtain ⟨ρ', e, L, y', rfl, nd, rm, mm⟩ := forGo_pre (T := .nm 7) (body := fb__law_open_3) PyData.int (fun pre ρ => ∃ L y', ρ = [some (hous n ps), some (.tuple (ws.map encW)), m, rw_, some (.int (b : Nat)), some (intsL L), some (.int r), y'] ∧ L.Nodup ∧ (∀ x ∈ L, 0 ≤ x ∧ x < n) ∧ ∀ o, o ∈ L ↔ o ∈ L0 ∨ (o ∈ pre ∧ stp ws r o (b : Nat) = true)) (nx n ps r) [] [some (hous n ps), some (.tuple (ws.map encW)), m, rw_, some (.int (b : Nat)), some (intsL L0), some (.int r), y] ⟨L0, y, rfl, nd0, rm0, fun o => by simp⟩ (by
    rintro p o q ρ hp ⟨L, y, rfl, nd, rm, mm⟩
    have ho : 0 ≤ o ∧ o < n := nx_rooms (show o ∈ nx n ps r by rw [show nx n ps r = p ++ o :: q from hp]; simp)
    have c1 := fun ρ => call4 (ρ := ρ) (law_step_t hw r o (b : Nat))
    have ni := notInD_ints o L
    have st := stp_stc h hw r o (b : Nat)
    have e0 : (((stc ws r o (b : Nat) : Nat) : Int) == 0) = stp ws r o (b : Nat) := by
      rw [st, Bool.eq_iff_iff, beq_iff_eq, decide_eq_true_eq]; omega
    by_cases hin : o ∈ L
    · refine ⟨[some (hous n ps), some (.tuple (ws.map encW)), m, rw_, some (.int (b : Nat)), some (intsL L), some (.int r), some (.int o)], [some (hous n ps), some (.tuple (ws.map encW)), m, rw_, some (.int (b : Nat)), some (intsL L), some (.int r), some (.int o)], by simp [bindT], .inl ?_, L, _, rfl, nd, rm, fun j => ?_⟩
      · simp [fb__law_open_3, ni, hin, boolD]
      · rw [mm, List.mem_append, List.mem_singleton]
        refine ⟨fun z => z.imp id fun z => ⟨.inl z.1, z.2⟩, fun z => ?_⟩
        rcases z with z | ⟨z | z, z2⟩
        · exact .inl z
        · exact .inr ⟨z, z2⟩
        · subst z; exact (mm j).mp hin
    · cases hs : stp ws r o (b : Nat) with
      | false =>
        rw [hs] at e0
        refine ⟨[some (hous n ps), some (.tuple (ws.map encW)), m, rw_, some (.int (b : Nat)), some (intsL L), some (.int r), some (.int o)], [some (hous n ps), some (.tuple (ws.map encW)), m, rw_, some (.int (b : Nat)), some (intsL L), some (.int r), some (.int o)], by simp [bindT], .inl ?_, L, _, rfl, nd, rm, fun j => ?_⟩
        · simp [fb__law_open_3, ni, hin, boolD, c1, eqD_int, e0]
        · rw [mm, List.mem_append, List.mem_singleton]
          refine ⟨fun z => z.imp id fun z => ⟨.inl z.1, z.2⟩, fun z => ?_⟩
          rcases z with z | ⟨z | z, z2⟩
          · exact .inl z
          · exact .inr ⟨z, z2⟩
          · subst z; rw [hs] at z2; cases z2
      | true =>
        rw [hs] at e0
        have hlen : L.length < lim := by have := nodup_len nd rm; have := h.hi; show _ < 1000000; omega
        refine ⟨[some (hous n ps), some (.tuple (ws.map encW)), m, rw_, some (.int (b : Nat)), some (intsL L), some (.int r), some (.int o)], [some (hous n ps), some (.tuple (ws.map encW)), m, rw_, some (.int (b : Nat)), some (intsL (L ++ [o])), some (.int r), some (.int o)], by simp [bindT], .inl ?_, L ++ [o], _, rfl, List.nodup_append.mpr ⟨nd, by simp, fun a ha b hb e => hin (by rw [List.mem_singleton] at hb; rw [← hb, ← e]; exact ha)⟩, fun x hx => ?_, fun j => ?_⟩
        · simp [fb__law_open_3, ni, hin, boolD, c1, eqD_int, e0, eMut, valsOf, appD, hlen, show L.length + 1 ≤ lim from hlen]
        · rcases List.mem_append.mp hx with z | z
          · exact rm x z
          · rw [List.mem_singleton] at z; subst z; exact ho
        · rw [List.mem_append, mm, List.mem_append, List.mem_singleton]
          constructor
          · rintro ((z | z) | z)
            · exact .inl z
            · exact .inr ⟨.inl z.1, z.2⟩
            · subst z; exact .inr ⟨.inr rfl, hs⟩
          · rintro (z | ⟨z | z, z2⟩)
            · exact .inl (.inl z)
            · exact .inl (.inr ⟨z, z2⟩)
            · exact .inr z)
  refine ⟨L, y', ?_, nd, rm, fun o => ?_⟩
  · have hi : (iOf (eCall 2 none m__law_beside (aCons (oVal (eVar 0)) (aCons (oVal (eVar 6)) aNil)))) [some (hous n ps), some (.tuple (ws.map encW)), m, rw_, some (.int (b : Nat)), some (intsL L0), some (.int r), y] = .ok ((nx n ps r).map PyData.int) [some (hous n ps), some (.tuple (ws.map encW)), m, rw_, some (.int (b : Nat)), some (intsL L0), some (.int r), y] := by
      simp [c, itemsD]
    rw [fb__law_open_2, sFor_ok hi]; exact e
  · rw [mm]
    unfold stL
    rw [List.mem_filter]; rfl
theorem law_open_mid (h : HsOk n ps) (hw : ∀ w ∈ ws, WtOk n ps w) (b : Nat) (m rw_ : Option D) (x y : Option D) :
    ∃ L x' y', forGo (.nm 6) fb__law_open_2 ((opn n ps ws b).map .int) [some (hous n ps), some (.tuple (ws.map encW)), m, rw_, some (.int (b : Nat)), some (intsL []), x, y] = .nx [some (hous n ps), some (.tuple (ws.map encW)), m, rw_, some (.int (b : Nat)), some (intsL L), x', y'] ∧ (opn n ps ws (b + 1)).Perm L := by
  have hn : 0 < n := by have := h.lo; omega
  obtain ⟨ρ', e, L, x', y', rfl, nd, rm, mm⟩ := forGo_pre (T := .nm 6) (body := fb__law_open_2) PyData.int (fun pre ρ => ∃ L x' y', ρ = [some (hous n ps), some (.tuple (ws.map encW)), m, rw_, some (.int (b : Nat)), some (intsL L), x', y'] ∧ L.Nodup ∧ (∀ x ∈ L, 0 ≤ x ∧ x < n) ∧ ∀ o, o ∈ L ↔ ∃ r ∈ pre, o ∈ stL n ps ws r b) (opn n ps ws b) [] _ ⟨[], x, y, rfl, by simp, by simp, fun o => by simp⟩ (by
    rintro p r q ρ hp ⟨L, x, y, rfl, nd, rm, mm⟩
    have hr : r ∈ opn n ps ws b := by rw [show opn n ps ws b = p ++ r :: q from hp]; simp
    obtain ⟨L1, y1, e1, nd1, rm1, mm1⟩ := law_open_in h hw b m rw_ r (mem_rooms.mp (List.mem_filter.mp hr).1) L nd rm y
    refine ⟨[some (hous n ps), some (.tuple (ws.map encW)), m, rw_, some (.int (b : Nat)), some (intsL L), some (.int r), y], _, by simp [bindT], .inl e1, L1, some (.int r), y1, rfl, nd1, rm1, fun o => ?_⟩
    rw [mm1, mm]
    constructor
    · rintro (⟨s, hs, z⟩ | z)
      · exact ⟨s, by simp [hs], z⟩
      · exact ⟨r, by simp, z⟩
    · rintro ⟨s, hs, z⟩
      rcases List.mem_append.mp hs with hs | hs
      · exact .inl ⟨s, hs, z⟩
      · rw [List.mem_singleton] at hs; subst hs; exact .inr z)
  refine ⟨L, x', y', e, (List.perm_ext_iff_of_nodup (up_nodup (opn_up _)) nd).mpr fun o => ?_⟩
  rw [mem_opn_succ hn, mm]; rfl
theorem opn_zero (hn : 0 < n) : opn n ps ws 0 = [0] := by
  refine eq_of_perm_le (le := (· ≤ ·)) ((List.perm_ext_iff_of_nodup (up_nodup (opn_up 0)) (by simp)).mpr fun o => ?_) (up_le (opn_up 0)) (by simp) fun a _ b _ h1 h2 => by omega
  rw [mem_opn hn, gw]
  simp [lst]
  exact eq_comm
theorem law_open_t (h : HsOk n ps) (hw : ∀ w ∈ ws, WtOk n ps w) (k : Nat) (hk : k ≤ 50) : m__law_open [hous n ps, .tuple (ws.map encW), .int ((k : Nat) + 1)] = .ok (.list ((List.range (k + 1)).map fun b => intsL (opn n ps ws b))) [none, none, none] := by
  have hn : 0 < n := by have := h.lo; omega
  obtain ⟨ρ', e, bt, lt, x, y, rfl⟩ := forGo_pre (T := .nm 4) (body := fb__law_open_1) (fun i : Nat => PyData.int ((i : Nat) : Int)) (fun pre ρ => ∃ bt lt x y, ρ = [some (hous n ps), some (.tuple (ws.map encW)), some (.int ((k : Nat) + 1)), some (.list ((List.range (pre.length + 1)).map fun b => intsL (opn n ps ws b))), bt, lt, x, y]) (List.range k) [] [some (hous n ps), some (.tuple (ws.map encW)), some (.int ((k : Nat) + 1)), some (.list [.list [.int 0]]), none, none, none, none] ⟨none, none, none, none, by simp [List.range_succ, opn_zero hn]⟩ (by
    rintro p i q ρ hp ⟨bt, lt, x, y, rfl⟩
    obtain ⟨rfl, hlt⟩ := range_at hp
    obtain ⟨L, x', y', e1, pe⟩ := law_open_mid h hw p.length (some (.int ((k : Nat) + 1))) (some (.list ((List.range (p.length + 1)).map fun b => intsL (opn n ps ws b)))) x y
    have so := sort_ints pe (up_le (opn_up _))
    have ix : ixD (.list ((List.range (p.length + 1)).map fun b => intsL (opn n ps ws b))) (.int (-1)) = some (intsL (opn n ps ws p.length)) := by
      show L2.atI _ (-1) = _
      rw [List.range_succ, List.map_append]
      exact L2.atI_last _ _
    refine ⟨[some (hous n ps), some (.tuple (ws.map encW)), some (.int ((k : Nat) + 1)), some (.list ((List.range (p.length + 1)).map fun b => intsL (opn n ps ws b))), some (.int (p.length : Nat)), lt, x, y], [some (hous n ps), some (.tuple (ws.map encW)), some (.int ((k : Nat) + 1)), some (.list ((List.range (p.length + 1 + 1)).map fun b => intsL (opn n ps ws b))), some (.int (p.length : Nat)), some (intsL L), x', y'], by simp [bindT], .inl ?_, some (.int (p.length : Nat)), some (intsL L), x', y', by simp⟩
    have hlen : ((List.range (p.length + 1)).map fun b => intsL (opn n ps ws b)).length < lim := by simp; show _ < 1000000; omega
    rw [List.range_succ (n := p.length + 1), List.map_append, List.map_singleton]
    generalize ((List.range (p.length + 1)).map fun b => intsL (opn n ps ws b)) = M at ix hlen e1 ⊢
    simp [fb__law_open_1, valsOf, negD, ix, itemsD, show (some (PyData.list []) : Option D) = some (intsL []) from rfl, e1, eMut, derefs, so, appD, hlen, show M.length + 1 ≤ lim from hlen])
  have rg := rgI_ok (a := 0) (b := (k : Int)) (by omega) (by omega)
  have sb := sub1 (k : Int)
  have hi : (iRg1 (eOp2 subD (oVal (eVar 2)) (oVal (eC (.int 1))))) [some (hous n ps), some (.tuple (ws.map encW)), some (.int ((k : Nat) + 1)), some (.list [.list [.int 0]]), none, none, none, none] = .ok ((List.range k).map fun i : Nat => PyData.int ((i : Nat) : Int)) [some (hous n ps), some (.tuple (ws.map encW)), some (.int ((k : Nat) + 1)), some (.list [.list [.int 0]]), none, none, none, none] := by
    rw [← rgD0]
    simp [sb, rg]
  have hb : body__law_open [some (hous n ps), some (.tuple (ws.map encW)), some (.int ((k : Nat) + 1)), none, none, none, none, none] = .ret (.list ((List.range (k + 1)).map fun b => intsL (opn n ps ws b))) [some (hous n ps), some (.tuple (ws.map encW)), some (.int ((k : Nat) + 1)), none, bt, lt, x, y] := by
    have e0 : (sSet 3 (eLst (aCons (oVal (eLst (aCons (oVal (eC (.int 0))) aNil))) aNil))) [some (hous n ps), some (.tuple (ws.map encW)), some (.int ((k : Nat) + 1)), none, none, none, none, none] = .nx [some (hous n ps), some (.tuple (ws.map encW)), some (.int ((k : Nat) + 1)), some (.list [.list [.int 0]]), none, none, none, none] := rfl
    rw [body__law_open, ev_sSeq, e0, sThen_nx, ev_sSeq, sFor_ok hi, e, sThen_nx]
    simp [eMov]
  exact fnM_ret hb
end
end U

set_option maxRecDepth 100000
set_option linter.all false
set_option maxHeartbeats 4000000
namespace U
open PySem PySem.Spec PyProof.Rows L2 RZ PD
open PySem.W (dataLt alike alikeAll keyToks keyToksAll)
/-! ### dicts whose keys are a room and a truth value -/
abbrev kbD (k : Int × Bool) : D := .tuple [.int k.1, .bool k.2]
theorem kb_inj (a b : Int × Bool) (h : nkey (kbD a) = nkey (kbD b)) : a = b := by
  obtain ⟨i, x⟩ := a
  obtain ⟨j, y⟩ := b
  cases x <;> cases y <;> simp [nkey, nkeys] at h ⊢ <;> exact h
theorem kb_deep (k : Int × Bool) : tupK (kbD k) = true := by
  obtain ⟨i, x⟩ := k
  cases x <;> rfl
section
variable {β : Type} {f : β → D} {l : List ((Int × Bool) × β)}
abbrev kdict (f : β → D) (l : List ((Int × Bool) × β)) : D := .dict (dictD kbD f l)
theorem kb_kind (k : Int × Bool) : kindOk (dictD kbD f l) (kbD k) = true := by
  unfold kindOk
  rw [kb_deep, Bool.true_and, Bool.or_eq_true]
  exact .inr (List.all_eq_true.mpr fun p hp => by obtain ⟨q, _, rfl⟩ := List.mem_map.mp hp; rfl)
theorem kb_keys : keysOk (dictD kbD f l) = true := List.all_eq_true.mpr fun p hp => by obtain ⟨q, _, rfl⟩ := List.mem_map.mp hp; rfl
theorem listV_k : listV (kdict f l) = some (.list (l.map fun p => f p.2)) := by
  show (if keysOk _ = true then some (PyData.list _) else none) = _
  rw [if_pos kb_keys]; simp [dictD]
end
theorem kb_len {n : Int} (hn : n ≤ 10) {l : List (Int × Bool)} (nd : l.Nodup) (r : ∀ x ∈ l, 0 ≤ x.1 ∧ x.1 < n) : l.length ≤ 20 := by
  have key : ∀ b : Bool, (l.filter fun x => x.2 == b).length ≤ 10 := by
    intro b
    have h1 : ((l.filter fun x => x.2 == b).map (·.1)).Nodup := nodup_map_on (nd.filter _) fun x hx y hy e => by
      rw [List.mem_filter, beq_iff_eq] at hx hy
      exact Prod.ext e (hx.2.trans hy.2.symm)
    have h2 := nodup_len (n := n) h1 fun x hx => by
      obtain ⟨y, hy, rfl⟩ := List.mem_map.mp hx
      exact r y (List.mem_filter.mp hy).1
    rw [List.length_map] at h2
    omega
  have h1 := key true
  have h2 := key false
  have : l.length = (l.filter fun x => x.2 == true).length + (l.filter fun x => x.2 == false).length := by
    clear key h1 h2 nd r
    induction l with
    | nil => rfl
    | cons x l ih =>
      obtain ⟨i, b⟩ := x
      cases b <;> simp [List.filter_cons] at ih ⊢ <;> omega
  omega
/-! ### ways one longer -/
section
variable {n : Int} {ps : List (Int × Int)} {bl ke : List Wt}
abbrev rowD (p : List Int × Bool) : D := .tuple [wayD p.1, .bool p.2]
/-- a row of a beat: a way that the blind ones do not see, with whether the keen ones saw it -/
def Row (n : Int) (ps : List (Int × Int)) (bl ke : List Wt) (b : Nat) (p : List Int × Bool) : Prop := p.1 ∈ gw n ps bl b ∧ (p.2 = false ↔ p.1 ∈ gw n ps ke b)
structure ROk (n : Int) (ps : List (Int × Int)) (bl ke : List Wt) (b : Nat) (rows : List (List Int × Bool)) : Prop where
  ok : ∀ p ∈ rows, Row n ps bl ke b p
  ln : rows.length ≤ 20
  all : ∀ p, Row n ps bl ke b p → ∃ q ∈ rows, lst q.1 = lst p.1 ∧ q.2 = p.2
theorem gw_snoc {ws : List Wt} {b : Nat} {w : List Int} {o : Int} : w ++ [o] ∈ gw n ps ws (b + 1) ↔ w ∈ gw n ps ws b ∧ o ∈ stL n ps ws (lst w) b := by
  rw [gw, List.mem_flatMap]
  constructor
  · rintro ⟨v, hv, h⟩
    obtain ⟨x, hx, e⟩ := List.mem_map.mp h
    have e1 := List.append_inj' e rfl
    obtain ⟨rfl, e2⟩ := e1
    cases e2
    exact ⟨hv, hx⟩
  · rintro ⟨h1, h2⟩
    exact ⟨w, h1, List.mem_map.mpr ⟨o, h2, rfl⟩⟩
theorem row_snoc (b : Nat) {w : List Int} {f : Bool} (hr : Row n ps bl ke b (w, f)) {o : Int} (ho : o ∈ stL n ps bl (lst w) b) : Row n ps bl ke (b + 1) (w ++ [o], f || !stp ke (lst w) o (b : Nat)) := by
  have hnx : o ∈ nx n ps (lst w) := (List.mem_filter.mp ho).1
  refine ⟨gw_snoc.mpr ⟨hr.1, ho⟩, ?_⟩
  show (f || !stp ke (lst w) o (b : Nat)) = false ↔ w ++ [o] ∈ gw n ps ke (b + 1)
  rw [gw_snoc, ← hr.2]
  have : o ∈ stL n ps ke (lst w) b ↔ stp ke (lst w) o (b : Nat) = true := by
    unfold stL
    rw [List.mem_filter]
    exact ⟨fun z => z.2, fun z => ⟨hnx, z⟩⟩
  rw [this]
  cases f <;> cases stp ke (lst w) o (b : Nat) <;> simp
theorem row_cases {b : Nat} {w : List Int} {f : Bool} (hr : Row n ps bl ke (b + 1) (w, f)) : ∃ v g o, w = v ++ [o] ∧ Row n ps bl ke b (v, g) ∧ o ∈ stL n ps bl (lst v) b ∧ f = (g || !stp ke (lst v) o (b : Nat)) := by
  have h1 := hr.1
  rw [gw, List.mem_flatMap] at h1
  obtain ⟨v, hv, h1⟩ := h1
  obtain ⟨o, ho, e⟩ := List.mem_map.mp h1
  have e : v ++ [o] = w := e
  subst e
  obtain ⟨g, hg⟩ : ∃ g : Bool, (g = false ↔ v ∈ gw n ps ke b) := by
    by_cases q : v ∈ gw n ps ke b
    · exact ⟨false, by simp [q]⟩
    · exact ⟨true, by simp [q]⟩
  have hr2 := row_snoc b (show Row n ps bl ke b (v, g) from ⟨hv, hg⟩) ho
  refine ⟨v, g, o, rfl, ⟨hv, hg⟩, ho, ?_⟩
  have h2 := hr.2
  have h3 := hr2.2
  simp only at h2 h3
  rw [← h3] at h2
  cases f <;> cases h : (g || !stp ke (lst v) o (b : Nat)) <;> simp [h] at h2 ⊢
end
end U

set_option maxRecDepth 100000
set_option linter.all false
set_option maxHeartbeats 4000000
namespace U
open PySem PySem.Spec PyProof.Rows L2 RZ PD
open PySem.W (dataLt alike alikeAll keyToks keyToksAll)
@[simp] theorem ev_sPar {i j : Nat} {f : PD.Env → Res (List PD.Arg)} {ρ : PD.Env} : sPar i j f ρ = bS (f ρ) fun as ρ1 => match valsOf as with
  | some [d, e] => if i < ρ1.length ∧ j < ρ1.length then .nx ((ρ1.set i (some d)).set j (some e)) else .err
  | _ => .err := rfl
section
variable {n : Int} {ps : List (Int × Int)} {bl ke : List Wt}
abbrev KL := List ((Int × Bool) × (List Int × Bool))
def setA (l : KL) (k : Int × Bool) (v : List Int × Bool) : KL := if (lookA l k).isSome = true then l else putA l k v
structure NInv (n : Int) (ps : List (Int × Int)) (bl ke : List Wt) (b : Nat) (L : KL) (S : List (Int × Bool)) : Prop where
  nd : (L.map (·.1)).Nodup
  rm : ∀ k ∈ L.map (·.1), 0 ≤ k.1 ∧ k.1 < n
  ok : ∀ p ∈ L, Row n ps bl ke (b + 1) p.2 ∧ p.1 = (lst p.2.1, p.2.2)
  all : ∀ k ∈ S, k ∈ L.map (·.1)
theorem NInv.len {b : Nat} {L : KL} {S : List (Int × Bool)} (h : NInv n ps bl ke b L S) (hn : n ≤ 10) : L.length ≤ 20 := by
  have := kb_len hn h.nd h.rm
  rwa [List.length_map] at this
theorem NInv.put {b : Nat} {L : KL} {S : List (Int × Bool)} (h : NInv n ps bl ke b L S) {w : List Int} {o : Int} {f : Bool} (ho : 0 ≤ o ∧ o < n) (hr : Row n ps bl ke (b + 1) (w ++ [o], f)) : NInv n ps bl ke b (setA L (o, f) (w ++ [o], f)) (S ++ [(o, f)]) := by
  unfold setA
  by_cases q : (lookA L (o, f)).isSome = true
  · rw [if_pos q]
    refine ⟨h.nd, h.rm, h.ok, fun k hk => ?_⟩
    rcases List.mem_append.mp hk with z | z
    · exact h.all k z
    · rw [List.mem_singleton] at z; rw [z]; exact lookA_some_iff.mp q
  · rw [if_neg q]
    have hkeys : (putA L (o, f) (w ++ [o], f)).map (·.1) = L.map (·.1) ++ [(o, f)] := by
      rw [putA_keys, if_neg fun z => q (lookA_some_iff.mpr z)]
    have hput : putA L (o, f) (w ++ [o], f) = L ++ [((o, f), (w ++ [o], f))] := by unfold putA; rw [if_neg q]
    refine ⟨putA_nodup h.nd, fun k hk => ?_, fun p hp => ?_, fun k hk => ?_⟩
    · rcases putA_sub hk with rfl | z
      · exact ho
      · exact h.rm k z
    · rw [hput] at hp
      rcases List.mem_append.mp hp with z | z
      · exact h.ok p z
      · rw [List.mem_singleton] at z
        subst z
        exact ⟨hr, by rw [lst_snoc]⟩
    · rw [hkeys]
      rcases List.mem_append.mp hk with z | z
      · exact List.mem_append.mpr (.inl (h.all k z))
      · exact List.mem_append.mpr (.inr z)
theorem setd_k (l : KL) (k : Int × Bool) (v : List Int × Bool) (hl : l.length < lim) (h B K r bt w f o d rm nw : Option D) (fk fv : PD.Env → Res D)
    (e1 : fk [h, B, K, r, bt, some (kdict rowD l), w, f, o, d, rm, nw] = .ok (kbD k) [h, B, K, r, bt, some (kdict rowD l), w, f, o, d, rm, nw]) (e2 : fv [h, B, K, r, bt, some (kdict rowD l), w, f, o, d, rm, nw] = .ok (rowD v) [h, B, K, r, bt, some (kdict rowD l), w, f, o, d, rm, nw]) :
    sDrop (eSetd 5 fk fv) [h, B, K, r, bt, some (kdict rowD l), w, f, o, d, rm, nw] = .nx [h, B, K, r, bt, some (kdict rowD (setA l k v)), w, f, o, d, rm, nw] := by
  have hlen : (dictD kbD rowD l).length < lim := by rw [List.length_map]; exact hl
  have kk := kb_kind (f := rowD) (l := l) k
  have lk := lookD_enc kb_inj rowD k l
  have pu := putD_enc kb_inj rowD k v l
  unfold setA
  cases q : lookA l k with
  | some x =>
    rw [q, Option.map_some] at lk
    simp only [ev_sDrop, eSetd, ev_slotS, ev_slot0, e1, e2, bnd_ok, kk, hlen, and_self, if_true, lk, bS_ok, Option.isSome_some]
  | none =>
    rw [q, Option.map_none] at lk
    simp only [ev_sDrop, eSetd, ev_slotS, ev_slot0, e1, e2, bnd_ok, kk, hlen, and_self, if_true, lk, bS_ok, Option.isSome_none, Bool.false_eq_true, if_false, pu]
    rfl
theorem nr_in (hbl : ∀ w ∈ bl, WtOk n ps w) (hke : ∀ w ∈ ke, WtOk n ps w) (b : Nat) (h r : Option D) (w : List Int) (hw : w ≠ [] ∧ w.length ≤ 100) (f : Bool) (o : Int) (l : KL) (hl : l.length ≤ 100) (d rm nw : Option D) :
    ∃ d' rm' nw', fb_next_rows_2 [h, some (.tuple (bl.map encW)), some (.tuple (ke.map encW)), r, some (.int (b : Nat)), some (kdict rowD l), some (wayD w), some (.bool f), some (.int o), d, rm, nw] = .nx [h, some (.tuple (bl.map encW)), some (.tuple (ke.map encW)), r, some (.int (b : Nat)), some (kdict rowD (if stp bl (lst w) o (b : Nat) = true then setA l (o, f || !stp ke (lst w) o (b : Nat)) (w ++ [o], f || !stp ke (lst w) o (b : Nat)) else l)), some (wayD w), some (.bool f), some (.int o), d', rm', nw'] := by
  have ix := way_last hw.1
  have c0 := fun ρ => call2 (ρ := ρ) (door_of_t (lst w) o)
  have b1 := fun ρ => call3 (ρ := ρ) (seers_t hbl [doorO (lst w) o] (b : Nat))
  have b2 : ∀ ρ, callM 3 none m_seers [.val (.tuple (bl.map encW)), .val (.list [.tuple [.str "room", .int o]]), .val (.int ((b : Nat) + 1))] ρ = .ok (intsL (sidx bl [some (.rm o)] ((b : Nat) + 1))) ρ := fun ρ => call3 (ρ := ρ) (seers_t hbl [some (.rm o)] ((b : Nat) + 1))
  have k1 := fun ρ => call3 (ρ := ρ) (seers_t hke [doorO (lst w) o] (b : Nat))
  have k2 : ∀ ρ, callM 3 none m_seers [.val (.tuple (ke.map encW)), .val (.list [.tuple [.str "room", .int o]]), .val (.int ((b : Nat) + 1))] ρ = .ok (intsL (sidx ke [some (.rm o)] ((b : Nat) + 1))) ρ := fun ρ => call3 (ρ := ρ) (seers_t hke [some (.rm o)] ((b : Nat) + 1))
  simp only [List.map_cons, List.map_nil] at b1 k1
  have e1 := eq_nil (sidx bl [doorO (lst w) o] (b : Nat))
  have e2 := eq_nil (sidx bl [some (.rm o)] ((b : Nat) + 1))
  have e3 := ne_nil (sidx ke [doorO (lst w) o] (b : Nat))
  have e4 := ne_nil (sidx ke [some (.rm o)] ((b : Nat) + 1))
  rw [sidx1] at e1 e2 e3 e4
  rw [Bool.not_not] at e3 e4
  have sn := way_snoc o (show w.length ≤ 1000 by omega)
  have hs : stp bl (lst w) o (b : Nat) = (!seen bl (doorO (lst w) o) (b : Nat) && !seen bl (some (.rm o)) ((b : Nat) + 1)) := rfl
  have hk : (!stp ke (lst w) o (b : Nat)) = (seen ke (doorO (lst w) o) (b : Nat) || seen ke (some (.rm o)) ((b : Nat) + 1)) := by
    unfold stp; cases seen ke (doorO (lst w) o) (b : Nat) <;> cases seen ke (some (.rm o)) ((b : Nat) + 1) <;> rfl
  generalize hnow : (f || !stp ke (lst w) o (b : Nat)) = now
  have sd := setd_k l (o, now) (w ++ [o], now) (by show _ < 1000000; omega) h (some (.tuple (bl.map encW))) (some (.tuple (ke.map encW))) r (some (.int (b : Nat))) (some (wayD w)) (some (.bool f)) (some (.int o)) (some (.list [encO (doorO (lst w) o)])) (some (.list [.tuple [.str "room", .int o]])) (some (.bool now)) (eTup (aCons (oVal (eVar 8)) (aCons (oVal (eVar 11)) aNil))) (eTup (aCons (oVal (eOp2 addD (oVal (eVar 6)) (oVal (eTup (aCons (oVal (eVar 8)) aNil))))) (aCons (oVal (eVar 11)) aNil))) (by simp [valsOf, show (2 : Nat) ≤ lim by decide]) (by simp [valsOf, show (1 : Nat) ≤ lim by decide, show (2 : Nat) ≤ lim by decide, sn])
  have nowE : (eOr (eVar 7) (eOr (eOp2 neD (oVal (eCall 3 none m_seers (aCons (oVal (eVar 2)) (aCons (oVal (eVar 9)) (aCons (oVal (eVar 4)) aNil))))) (oVal (eLst aNil))) (eOp2 neD (oVal (eCall 3 none m_seers (aCons (oVal (eVar 2)) (aCons (oVal (eVar 10)) (aCons (oVal (eOp2 addD (oVal (eVar 4)) (oVal (eC (.int 1))))) aNil))))) (oVal (eLst aNil))))) [h, some (.tuple (bl.map encW)), some (.tuple (ke.map encW)), r, some (.int (b : Nat)), some (kdict rowD l), some (wayD w), some (.bool f), some (.int o), some (.list [encO (doorO (lst w) o)]), some (.list [.tuple [.str "room", .int o]]), nw] = .ok (.bool now) [h, some (.tuple (bl.map encW)), some (.tuple (ke.map encW)), r, some (.int (b : Nat)), some (kdict rowD l), some (wayD w), some (.bool f), some (.int o), some (.list [encO (doorO (lst w) o)]), some (.list [.tuple [.str "room", .int o]]), nw] := by
    rw [← hnow, hk]
    cases f
    · cases q1 : seen ke (doorO (lst w) o) (b : Nat) <;> cases q2 : seen ke (some (.rm o)) ((b : Nat) + 1) <;> rw [q1] at e3 <;> rw [q2] at e4 <;> simp [k1, e3, addI, k2, e4, valsOf, lim]
    · simp
  have p1 : (sPar 9 10 (aCons (oVal (eLst (aCons (oVal (eCall 2 none m_door_of (aCons (oVal (eOp2 ixD (oVal (eVar 6)) (oVal (eOp1 negD (oVal (eC (.int 1))))))) (aCons (oVal (eVar 8)) aNil)))) aNil))) (aCons (oVal (eLst (aCons (oVal (eTup (aCons (oVal (eC (.str "room"))) (aCons (oVal (eVar 8)) aNil)))) aNil))) aNil))) [h, some (.tuple (bl.map encW)), some (.tuple (ke.map encW)), r, some (.int (b : Nat)), some (kdict rowD l), some (wayD w), some (.bool f), some (.int o), d, rm, nw] = .nx [h, some (.tuple (bl.map encW)), some (.tuple (ke.map encW)), r, some (.int (b : Nat)), some (kdict rowD l), some (wayD w), some (.bool f), some (.int o), some (.list [encO (doorO (lst w) o)]), some (.list [.tuple [.str "room", .int o]]), nw] := by
    simp [negD, ix, c0, valsOf, show (1 : Nat) ≤ lim by decide, show (2 : Nat) ≤ lim by decide]
  have t1 : (bAnd (bOf (eOp2 eqD (oVal (eCall 3 none m_seers (aCons (oVal (eVar 1)) (aCons (oVal (eVar 9)) (aCons (oVal (eVar 4)) aNil))))) (oVal (eLst aNil)))) (bOf (eOp2 eqD (oVal (eCall 3 none m_seers (aCons (oVal (eVar 1)) (aCons (oVal (eVar 10)) (aCons (oVal (eOp2 addD (oVal (eVar 4)) (oVal (eC (.int 1))))) aNil))))) (oVal (eLst aNil))))) [h, some (.tuple (bl.map encW)), some (.tuple (ke.map encW)), r, some (.int (b : Nat)), some (kdict rowD l), some (wayD w), some (.bool f), some (.int o), some (.list [encO (doorO (lst w) o)]), some (.list [.tuple [.str "room", .int o]]), nw] = .ok (stp bl (lst w) o (b : Nat)) [h, some (.tuple (bl.map encW)), some (.tuple (ke.map encW)), r, some (.int (b : Nat)), some (kdict rowD l), some (wayD w), some (.bool f), some (.int o), some (.list [encO (doorO (lst w) o)]), some (.list [.tuple [.str "room", .int o]]), nw] := by
    rw [hs]
    cases q1 : seen bl (doorO (lst w) o) (b : Nat) <;> cases q2 : seen bl (some (.rm o)) ((b : Nat) + 1) <;> rw [q1] at e1 <;> rw [q2] at e2 <;> simp [b1, e1, addI, b2, e2, valsOf, lim, boolD]
  rw [fb_next_rows_2, ev_sSeq, p1, sThen_nx, ev_sIf, t1, bS_ok]
  cases q : stp bl (lst w) o (b : Nat) with
  | false => exact ⟨some (.list [encO (doorO (lst w) o)]), some (.list [.tuple [.str "room", .int o]]), nw, rfl⟩
  | true =>
    refine ⟨some (.list [encO (doorO (lst w) o)]), some (.list [.tuple [.str "room", .int o]]), some (.bool now), ?_⟩
    rw [if_pos rfl, if_pos rfl, ev_sSeq, ev_sSet, nowE, bS_ok]
    exact sd
end
end U

set_option maxRecDepth 100000
set_option linter.all false
set_option maxHeartbeats 4000000
namespace U
open PySem PySem.Spec PyProof.Rows L2 RZ PD
open PySem.W (dataLt alike alikeAll keyToks keyToksAll)
section
variable {n : Int} {ps : List (Int × Int)} {bl ke : List Wt}
def newS (n : Int) (ps : List (Int × Int)) (bl ke : List Wt) (b : Nat) (p : List Int × Bool) : List (Int × Bool) := (stL n ps bl (lst p.1) b).map fun o => (o, p.2 || !stp ke (lst p.1) o (b : Nat))
theorem nr_mid (h : HsOk n ps) (hbl : ∀ w ∈ bl, WtOk n ps w) (hke : ∀ w ∈ ke, WtOk n ps w) (b : Nat) (hb : b ≤ 60) (r : Option D) (w : List Int) (f : Bool) (hr : Row n ps bl ke b (w, f)) (l : KL) (S : List (Int × Bool)) (inv : NInv n ps bl ke b l S) (o d rm nw : Option D) :
    ∃ l' o' d' rm' nw', fb_next_rows_1 [some (hous n ps), some (.tuple (bl.map encW)), some (.tuple (ke.map encW)), r, some (.int (b : Nat)), some (kdict rowD l), some (wayD w), some (.bool f), o, d, rm, nw] = .nx [some (hous n ps), some (.tuple (bl.map encW)), some (.tuple (ke.map encW)), r, some (.int (b : Nat)), some (kdict rowD l'), some (wayD w), some (.bool f), o', d', rm', nw'] ∧ NInv n ps bl ke b l' (S ++ newS n ps bl ke b (w, f)) := by
  have hn : 0 < n := by have := h.lo; omega
  obtain ⟨hwl, hlr⟩ := ways_ok hn b (gw_ways (show w ∈ gw n ps bl b from hr.1))
  have hne : w ≠ [] := fun e => by rw [e] at hwl; simp at hwl
  have ix := way_last hne
  have cb := fun ρ => call2 (ρ := ρ) (beside_t h (lst w))
  have so := sort_ints (nx_perm h hlr) (up_le (nx_up n ps (lst w)))
  rw [List.map_append] at so
  simp only [List.map_cons, List.map_nil] at so
  have hnb := (nb_perm h (lst w)).length_eq
  have hnl := nbl_len (ps := ps) (lst w)
  have hps := h.ln
  have ad : addD (intsL (nb n ps (lst w))) (.list [.int (lst w)]) = some (.list ((nb n ps (lst w)).map .int ++ [.int (lst w)])) := addL (by rw [List.length_map]; show _ ≤ 1000000; simp; omega)
  have hi : (iOf (eOpN sortD (aCons (oVal (eOp2 addD (oVal (eCall 2 none m_beside (aCons (oVal (eVar 0)) (aCons (oVal (eOp2 ixD (oVal (eVar 6)) (oVal (eOp1 negD (oVal (eC (.int 1))))))) aNil)))) (oVal (eLst (aCons (oVal (eOp2 ixD (oVal (eVar 6)) (oVal (eOp1 negD (oVal (eC (.int 1))))))) aNil))))) aNil))) [some (hous n ps), some (.tuple (bl.map encW)), some (.tuple (ke.map encW)), r, some (.int (b : Nat)), some (kdict rowD l), some (wayD w), some (.bool f), o, d, rm, nw] = .ok ((nx n ps (lst w)).map PyData.int) [some (hous n ps), some (.tuple (bl.map encW)), some (.tuple (ke.map encW)), r, some (.int (b : Nat)), some (kdict rowD l), some (wayD w), some (.bool f), o, d, rm, nw] := by
    simp [negD, ix, cb, valsOf, show (1 : Nat) ≤ lim by decide, ad, derefs, so, itemsD]
  obtain ⟨ρ', e, l', o', d', rm', nw', rfl, inv'⟩ := forGo_pre (T := .nm 8) (body := fb_next_rows_2) PyData.int (fun pre ρ => ∃ l' o' d' rm' nw', ρ = [some (hous n ps), some (.tuple (bl.map encW)), some (.tuple (ke.map encW)), r, some (.int (b : Nat)), some (kdict rowD l'), some (wayD w), some (.bool f), o', d', rm', nw'] ∧ NInv n ps bl ke b l' (S ++ (pre.filter fun o => stp bl (lst w) o (b : Nat)).map fun o => (o, f || !stp ke (lst w) o (b : Nat)))) (nx n ps (lst w)) [] _ ⟨l, o, d, rm, nw, rfl, by simpa using inv⟩ (by
    rintro p x q ρ hp ⟨l, o, d, rm, nw, rfl, inv⟩
    have hx : x ∈ nx n ps (lst w) := by rw [show nx n ps (lst w) = p ++ x :: q from hp]; simp
    have hxr := nx_rooms hx
    obtain ⟨d', rm', nw', e1⟩ := nr_in hbl hke b (some (hous n ps)) r w ⟨hne, by omega⟩ f x l (by have := inv.len h.hi; omega) d rm nw
    refine ⟨[some (hous n ps), some (.tuple (bl.map encW)), some (.tuple (ke.map encW)), r, some (.int (b : Nat)), some (kdict rowD l), some (wayD w), some (.bool f), some (.int x), d, rm, nw], _, by simp [bindT], .inl e1, _, _, _, _, _, rfl, ?_⟩
    rw [List.filter_append, List.map_append, ← List.append_assoc]
    cases q1 : stp bl (lst w) x (b : Nat) with
    | false => simpa [List.filter_cons, q1] using inv
    | true =>
      rw [if_pos rfl]
      have hst : x ∈ stL n ps bl (lst w) b := List.mem_filter.mpr ⟨hx, q1⟩
      have := inv.put hxr (row_snoc b hr hst)
      simpa [List.filter_cons, q1] using this)
  refine ⟨l', o', d', rm', nw', ?_, inv'⟩
  rw [fb_next_rows_1, sFor_ok hi]
  exact e
theorem next_rows_t (h : HsOk n ps) (hbl : ∀ w ∈ bl, WtOk n ps w) (hke : ∀ w ∈ ke, WtOk n ps w) (b : Nat) (hb : b ≤ 60) (rows : List (List Int × Bool)) (ro : ROk n ps bl ke b rows) :
    ∃ rows', m_next_rows [hous n ps, .tuple (bl.map encW), .tuple (ke.map encW), .list (rows.map rowD), .int (b : Nat)] = .ok (.list (rows'.map rowD)) [none, none, none, none, none] ∧ ROk n ps bl ke (b + 1) rows' := by
  obtain ⟨ρ', e, L, w, f, o, d, rm, nw, rfl, inv⟩ := forGo_pre (T := .tp [.nm 6, .nm 7]) (body := fb_next_rows_1) rowD (fun pre ρ => ∃ l w f o d rm nw, ρ = [some (hous n ps), some (.tuple (bl.map encW)), some (.tuple (ke.map encW)), some (.list (rows.map rowD)), some (.int (b : Nat)), some (kdict rowD l), w, f, o, d, rm, nw] ∧ NInv n ps bl ke b l (pre.flatMap (newS n ps bl ke b))) rows [] [some (hous n ps), some (.tuple (bl.map encW)), some (.tuple (ke.map encW)), some (.list (rows.map rowD)), some (.int (b : Nat)), some (.dict []), none, none, none, none, none, none] ⟨[], none, none, none, none, none, none, rfl, by simp, by simp, by simp, by simp⟩ (by
    rintro p x q ρ hp ⟨l, w, f, o, d, rm, nw, rfl, inv⟩
    obtain ⟨v, g⟩ := x
    have hm : (v, g) ∈ rows := by rw [show rows = p ++ (v, g) :: q from hp]; simp
    obtain ⟨l', o', d', rm', nw', e1, inv1⟩ := nr_mid h hbl hke b hb (some (.list (rows.map rowD))) v g (ro.ok _ hm) l _ inv o d rm nw
    refine ⟨[some (hous n ps), some (.tuple (bl.map encW)), some (.tuple (ke.map encW)), some (.list (rows.map rowD)), some (.int (b : Nat)), some (kdict rowD l), some (wayD v), some (.bool g), o, d, rm, nw], _, by simp [bindT, bindTs], .inl e1, _, _, _, _, _, _, _, rfl, ?_⟩
    rw [List.flatMap_append, List.flatMap_singleton]
    exact inv1)
  refine ⟨L.map (·.2), ?_, fun p hp => ?_, ?_, fun p hp => ?_⟩
  · have hb : body_next_rows [some (hous n ps), some (.tuple (bl.map encW)), some (.tuple (ke.map encW)), some (.list (rows.map rowD)), some (.int (b : Nat)), none, none, none, none, none, none, none] = .ret (.list ((L.map (·.2)).map rowD)) [some (hous n ps), some (.tuple (bl.map encW)), some (.tuple (ke.map encW)), some (.list (rows.map rowD)), some (.int (b : Nat)), some (kdict rowD L), w, f, o, d, rm, nw] := by
      have hi : (iOf (eVar 3)) [some (hous n ps), some (.tuple (bl.map encW)), some (.tuple (ke.map encW)), some (.list (rows.map rowD)), some (.int (b : Nat)), some (.dict []), none, none, none, none, none, none] = .ok (rows.map rowD) [some (hous n ps), some (.tuple (bl.map encW)), some (.tuple (ke.map encW)), some (.list (rows.map rowD)), some (.int (b : Nat)), some (.dict []), none, none, none, none, none, none] := rfl
      have lv := listV_k (f := rowD) (l := L)
      have lv' : (L.map fun p => rowD p.2) = (L.map (·.2)).map rowD := by simp
      rw [lv'] at lv
      rw [body_next_rows, ev_sSeq, show sSet 5 eDict0 [some (hous n ps), some (.tuple (bl.map encW)), some (.tuple (ke.map encW)), some (.list (rows.map rowD)), some (.int (b : Nat)), none, none, none, none, none, none, none] = .nx [some (hous n ps), some (.tuple (bl.map encW)), some (.tuple (ke.map encW)), some (.list (rows.map rowD)), some (.int (b : Nat)), some (.dict []), none, none, none, none, none, none] from rfl, sThen_nx, ev_sSeq, sFor_ok hi, e, sThen_nx]
      simp [lv]
    exact fnM_ret hb
  · obtain ⟨q, hq, rfl⟩ := List.mem_map.mp hp
    exact (inv.ok q hq).1
  · rw [List.length_map]; exact inv.len h.hi
  · obtain ⟨w, f⟩ := p
    obtain ⟨v, g, o, rfl, hv, ho, rfl⟩ := row_cases hp
    obtain ⟨⟨v', g'⟩, hq, e1, e2⟩ := ro.all _ hv
    simp only at e1 e2
    have hk : (o, g || !stp ke (lst v) o (b : Nat)) ∈ rows.flatMap (newS n ps bl ke b) := by
      rw [List.mem_flatMap]
      refine ⟨(v', g'), hq, ?_⟩
      unfold newS
      rw [List.mem_map]
      exact ⟨o, by rw [show lst (v', g').1 = lst v from e1]; exact ho, by rw [show lst (v', g').1 = lst v from e1, e2]⟩
    have hk2 := inv.all _ (by simpa using hk)
    obtain ⟨q, hq', e3⟩ := List.mem_map.mp hk2
    refine ⟨q.2, List.mem_map.mpr ⟨q, hq', rfl⟩, ?_, ?_⟩
    · have := (inv.ok q hq').2
      rw [e3] at this
      rw [lst_snoc]; exact (congrArg Prod.fst this).symm
    · have := (inv.ok q hq').2
      rw [e3] at this
      exact (congrArg Prod.snd this).symm
end
end U

set_option maxRecDepth 100000
set_option linter.all false
set_option maxHeartbeats 4000000
namespace U
open PySem PySem.Spec PyProof.Rows L2 RZ PD
open PySem.W (dataLt alike alikeAll keyToks keyToksAll)
theorem forGo_nx {T : Tg} {body : PD.Env → SR} {d : D} {ds : List D} {ρ ρ1 ρ2 : PD.Env} (h1 : bindT T d ρ = some ρ1) (h2 : body ρ1 = .nx ρ2) : forGo T body (d :: ds) ρ = forGo T body ds ρ2 := by
  rw [forGo]
  simp only [h1, h2]
theorem forGo_ret {T : Tg} {body : PD.Env → SR} {d e : D} {ds : List D} {ρ ρ1 ρ2 : PD.Env} (h1 : bindT T d ρ = some ρ1) (h2 : body ρ1 = .ret e ρ2) : forGo T body (d :: ds) ρ = .ret e ρ2 := by
  rw [forGo]
  simp only [h1, h2]
theorem minD_mem : ∀ (xs : List D) (x : D), PySem.W.minD x xs ∈ x :: xs
  | [], x => by simp [PySem.W.minD]
  | y :: xs, x => by
    have : PySem.W.minD x (y :: xs) = PySem.W.minD (if dataLt y x = true then y else x) xs := rfl
    rw [this]
    have := minD_mem xs (if dataLt y x = true then y else x)
    rcases List.mem_cons.mp this with e | e
    · rw [e]; split <;> simp
    · exact List.mem_cons_of_mem _ (List.mem_cons_of_mem _ e)
theorem min_ways (L : List (List Int)) (h : L ≠ []) : ∃ w ∈ L, minLD [.list (L.map wayD)] = some (wayD w) := by
  cases L with
  | nil => exact absurd rfl h
  | cons x xs =>
    have ok : minOk ((x :: xs).map wayD) = true := by
      unfold minOk
      rw [Bool.and_eq_true, Bool.and_eq_true]
      refine ⟨⟨List.all_eq_true.mpr fun d hd => ?_, List.all_eq_true.mpr fun a ha => List.all_eq_true.mpr fun b hb => ?_⟩, List.all_eq_true.mpr fun d hd => ?_⟩
      · obtain ⟨x, _, rfl⟩ := List.mem_map.mp hd; exact shaped_of (way_shp x) (by decide)
      · obtain ⟨x, _, rfl⟩ := List.mem_map.mp ha
        obtain ⟨y, _, rfl⟩ := List.mem_map.mp hb
        exact ways_alike x y
      · obtain ⟨x, _, rfl⟩ := List.mem_map.mp hd; rfl
    have hm := minD_mem (xs.map wayD) (wayD x)
    rw [← List.map_cons] at hm
    obtain ⟨w, hw, e⟩ := List.mem_map.mp hm
    refine ⟨w, hw, ?_⟩
    show (if minOk ((x :: xs).map wayD) = true then some (PySem.W.minD (wayD x) (xs.map wayD)) else none) = _
    rw [if_pos ok, e]
section
variable {n : Int} {ps : List (Int × Int)} {bl ke : List Wt}
def subB (n : Int) (ps : List (Int × Int)) (bl ke : List Wt) (b : Nat) : Bool := (gw n ps bl b).all fun w => decide (w ∈ gw n ps ke b)
theorem subB_iff {b : Nat} : subB n ps bl ke b = true ↔ ∀ w ∈ gw n ps bl b, w ∈ gw n ps ke b := by simp [subB]
theorem found_iff {b : Nat} {rows : List (List Int × Bool)} (ro : ROk n ps bl ke b rows) : (rows.filter fun p => p.2) = [] ↔ subB n ps bl ke b = true := by
  rw [subB_iff, List.filter_eq_nil_iff]
  constructor
  · intro h w hw
    by_cases q : w ∈ gw n ps ke b
    · exact q
    · obtain ⟨p, hp, _, e⟩ := ro.all (w, true) ⟨hw, by simp [q]⟩
      exact absurd e (h p hp)
  · intro h p hp e
    have := ro.ok p hp
    have h2 := this.2.mpr (h _ this.1)
    rw [e] at h2; cases h2
theorem sbo_step (h : HsOk n ps) (hbl : ∀ w ∈ bl, WtOk n ps w) (hke : ∀ w ∈ ke, WtOk n ps w) (b : Nat) (hb : b ≤ 60) (rows : List (List Int × Bool)) (ro : ROk n ps bl ke b rows) (x : Option D) :
    (∃ rows', fb_seen_by_one_1 [some (hous n ps), some (.tuple (ke.map encW)), some (.tuple (bl.map encW)), some (.list (rows.map rowD)), some (.int (b : Nat)), x, none, none] = .nx [some (hous n ps), some (.tuple (ke.map encW)), some (.tuple (bl.map encW)), some (.list (rows'.map rowD)), some (.int (b : Nat)), some (.list []), none, none] ∧ ROk n ps bl ke (b + 1) rows' ∧ subB n ps bl ke (b + 1) = true) ∨
    ∃ w ρ, fb_seen_by_one_1 [some (hous n ps), some (.tuple (ke.map encW)), some (.tuple (bl.map encW)), some (.list (rows.map rowD)), some (.int (b : Nat)), x, none, none] = .ret (wayD w) ρ ∧ w ∈ gw n ps bl (b + 1) ∧ w ∉ gw n ps ke (b + 1) := by
  obtain ⟨rows', e, ro'⟩ := next_rows_t h hbl hke b hb rows ro
  have c : ∀ ρ, callM 5 none m_next_rows [.val (hous n ps), .val (.tuple (bl.map encW)), .val (.tuple (ke.map encW)), .val (.list (rows.map rowD)), .val (.int (b : Nat))] ρ = .ok (.list (rows'.map rowD)) ρ := fun ρ => by simp [callM, argIn, e, putOut]
  have lc : lcGo (.tp [.nm 6, .nm 7]) lt_seen_by_one_2 le_seen_by_one_2 [6, 7] (rows'.map rowD) [some (hous n ps), some (.tuple (ke.map encW)), some (.tuple (bl.map encW)), some (.list (rows'.map rowD)), some (.int (b : Nat)), x, none, none] = .ok ((rows'.filter fun p => p.2).map fun p => wayD p.1) [some (hous n ps), some (.tuple (ke.map encW)), some (.tuple (bl.map encW)), some (.list (rows'.map rowD)), some (.int (b : Nat)), x, none, none] :=
    lcGo_filterT rowD (fun p => p.2) (fun p => wayD p.1) rows' fun p _ => ⟨[some (hous n ps), some (.tuple (ke.map encW)), some (.tuple (bl.map encW)), some (.list (rows'.map rowD)), some (.int (b : Nat)), x, some (wayD p.1), some (.bool p.2)], [some (hous n ps), some (.tuple (ke.map encW)), some (.tuple (bl.map encW)), some (.list (rows'.map rowD)), some (.int (b : Nat)), x, some (wayD p.1), some (.bool p.2)], by simp [bindT, bindTs], by simp [lt_seen_by_one_2, boolD], fun _ => by simp [wipeD], fun _ => ⟨[some (hous n ps), some (.tuple (ke.map encW)), some (.tuple (bl.map encW)), some (.list (rows'.map rowD)), some (.int (b : Nat)), x, some (wayD p.1), some (.bool p.2)], by simp [le_seen_by_one_2], by simp [wipeD]⟩⟩
  have fe : ((rows'.filter fun p => p.2).map fun p => wayD p.1) = ((rows'.filter fun p => p.2).map (·.1)).map wayD := by simp
  rw [fe] at lc
  have nE : neD (.list (((rows'.filter fun p => p.2).map (·.1)).map wayD)) (.list []) = some (.bool !((rows'.filter fun p => p.2).map (·.1)).isEmpty) := by
    rw [neD_shp (map_shp wayD way_shp _).1 (show shp 1 (.list []) = true from rfl)]
    cases ((rows'.filter fun p => p.2).map (·.1)) <;> rfl
  by_cases q : (rows'.filter fun p => p.2) = []
  · left
    refine ⟨rows', ?_, ro', (found_iff ro').mp q⟩
    rw [q] at lc nE
    simp only [List.map_nil, List.isEmpty_nil, Bool.not_true] at lc nE
    generalize rows'.map rowD = RD at c lc ⊢
    simp [fb_seen_by_one_1, c, itemsD, wipeD, lc, resD, valsOf, nE, boolD]
  · right
    have hne : ((rows'.filter fun p => p.2).map (·.1)) ≠ [] := by simpa using q
    obtain ⟨w, hw, em⟩ := min_ways _ hne
    obtain ⟨p, hp, rfl⟩ := List.mem_map.mp hw
    rw [List.mem_filter] at hp
    have hr := ro'.ok p hp.1
    have hE : ((rows'.filter fun p => p.2).map (·.1)).isEmpty = false := by cases h : ((rows'.filter fun p => p.2).map (·.1)) with | nil => exact absurd h hne | cons _ _ => rfl
    rw [hE] at nE
    generalize ((rows'.filter fun p => p.2).map (·.1)).map wayD = FD at lc nE em
    generalize rows'.map rowD = RD at c lc
    refine ⟨p.1, [some (hous n ps), some (.tuple (ke.map encW)), some (.tuple (bl.map encW)), some (.list RD), some (.int (b : Nat)), some (.list FD), none, none], ?_, hr.1, fun z => ?_⟩
    · simp [fb_seen_by_one_1, c, itemsD, wipeD, lc, resD, valsOf, nE, boolD, derefs, em]
    · have := hr.2.mpr z
      rw [hp.2] at this; cases this
theorem sbo_loop (h : HsOk n ps) (hbl : ∀ w ∈ bl, WtOk n ps w) (hke : ∀ w ∈ ke, WtOk n ps w) : ∀ (m b : Nat) (rows : List (List Int × Bool)) (x y : Option D), b + m ≤ 40 → ROk n ps bl ke b rows →
    (∃ ρ, forGo (.nm 4) fb_seen_by_one_1 ((List.range' b m).map fun i : Nat => PyData.int (i : Nat)) [some (hous n ps), some (.tuple (ke.map encW)), some (.tuple (bl.map encW)), some (.list (rows.map rowD)), y, x, none, none] = .nx ρ ∧ ∀ k, b < k → k ≤ b + m → subB n ps bl ke k = true) ∨
    ∃ w ρ k, forGo (.nm 4) fb_seen_by_one_1 ((List.range' b m).map fun i : Nat => PyData.int (i : Nat)) [some (hous n ps), some (.tuple (ke.map encW)), some (.tuple (bl.map encW)), some (.list (rows.map rowD)), y, x, none, none] = .ret (wayD w) ρ ∧ b < k ∧ k ≤ b + m ∧ w ∈ gw n ps bl k ∧ w ∉ gw n ps ke k ∧ ∀ j, b < j → j < k → subB n ps bl ke j = true
  | 0, b, rows, x, y, hb, ro => .inl ⟨_, rfl, fun k h1 h2 => by omega⟩
  | m + 1, b, rows, x, y, hb, ro => by
    rw [List.range'_succ, List.map_cons]
    have hbind : bindT (.nm 4) (.int (b : Nat)) [some (hous n ps), some (.tuple (ke.map encW)), some (.tuple (bl.map encW)), some (.list (rows.map rowD)), y, x, none, none] = some [some (hous n ps), some (.tuple (ke.map encW)), some (.tuple (bl.map encW)), some (.list (rows.map rowD)), some (.int (b : Nat)), x, none, none] := by simp [bindT]
    rcases sbo_step h hbl hke b (by omega) rows ro x with ⟨rows', e, ro', sb⟩ | ⟨w, ρ, e, h1, h2⟩
    · rw [forGo_nx hbind e]
      rcases sbo_loop h hbl hke m (b + 1) rows' (some (.list [])) (some (.int (b : Nat))) (by omega) ro' with ⟨ρ, e2, al⟩ | ⟨w, ρ, k, e2, k1, k2, k3, k4, k5⟩
      · refine .inl ⟨ρ, e2, fun k h1 h2 => ?_⟩
        by_cases q : k = b + 1
        · rw [q]; exact sb
        · exact al k (by omega) (by omega)
      · refine .inr ⟨w, ρ, k, e2, by omega, by omega, k3, k4, fun j h1 h2 => ?_⟩
        by_cases q : j = b + 1
        · rw [q]; exact sb
        · exact k5 j (by omega) h2
    · rw [forGo_ret hbind e]
      exact .inr ⟨w, ρ, b + 1, rfl, by omega, by omega, h1, h2, fun j h1 h2 => by omega⟩
def closB (n : Int) (ps : List (Int × Int)) (one other : List Wt) : Bool := (List.range 30).all fun k => subB n ps one other k
/-- what seen_by_one(house, keen, blind) answers -/
def Sbo (n : Int) (ps : List (Int × Int)) (bl ke : List Wt) : Option (List Int) → Prop
  | none => closB n ps bl ke = true
  | some w => ∃ k, 1 ≤ k ∧ k ≤ 29 ∧ w ∈ gw n ps bl k ∧ w ∉ gw n ps ke k ∧ ∀ j, j < k → subB n ps bl ke j = true
theorem seen_by_one_t (h : HsOk n ps) (hbl : ∀ w ∈ bl, WtOk n ps w) (hke : ∀ w ∈ ke, WtOk n ps w) : ∃ r, m_seen_by_one [hous n ps, .tuple (ke.map encW), .tuple (bl.map encW)] = .ok (optW r) [none, none, none] ∧ Sbo n ps bl ke r := by
  have s0 : subB n ps bl ke 0 = true := by simp [subB, gw]
  have r0 : ROk n ps bl ke 0 [([0], false)] := ⟨fun p hp => by
      rw [List.mem_singleton] at hp; subst hp
      exact ⟨by simp [gw], by simp [gw]⟩, by simp, fun p hp => ⟨([0], false), by simp, by
      have h1 := hp.1
      rw [gw, List.mem_singleton] at h1
      have h2 := hp.2.mpr (by rw [h1]; simp [gw])
      exact ⟨by rw [h1], h2.symm⟩⟩⟩
  have e0 : (sSet 3 (eLst (aCons (oVal (eTup (aCons (oVal (eTup (aCons (oVal (eC (.int 0))) aNil))) (aCons (oVal (eC (.bool false))) aNil)))) aNil))) [some (hous n ps), some (.tuple (ke.map encW)), some (.tuple (bl.map encW)), none, none, none, none, none] = .nx [some (hous n ps), some (.tuple (ke.map encW)), some (.tuple (bl.map encW)), some (.list ([(([0] : List Int), false)].map rowD)), none, none, none, none] := rfl
  have hi : (iRg1 (eOp2 subD (oVal (eC (.int 30))) (oVal (eC (.int 1))))) [some (hous n ps), some (.tuple (ke.map encW)), some (.tuple (bl.map encW)), some (.list ([(([0] : List Int), false)].map rowD)), none, none, none, none] = .ok ((List.range' 0 29).map fun i : Nat => PyData.int (i : Nat)) [some (hous n ps), some (.tuple (ke.map encW)), some (.tuple (bl.map encW)), some (.list ([(([0] : List Int), false)].map rowD)), none, none, none, none] := by
    have rg := rgI_ok (a := 0) (b := 29) (by omega) (by omega)
    have := rgD0 29
    rw [← List.range_eq_range', ← this]
    simp only [iRg1, ev_eOp2, ev_oVal, ev_eC, bnd_ok, ev_op2, ev_val, show subD (.int 30) (.int 1) = some (.int 29) from rfl, ofO_some, rg]
    rfl
  rcases sbo_loop h hbl hke 29 0 [([0], false)] none none (by omega) r0 with ⟨ρ, e, al⟩ | ⟨w, ρ, k, e, k1, k2, k3, k4, k5⟩
  · refine ⟨none, ?_, ?_⟩
    · have hb : body_seen_by_one [some (hous n ps), some (.tuple (ke.map encW)), some (.tuple (bl.map encW)), none, none, none, none, none] = .ret .none ρ := by
        rw [body_seen_by_one, ev_sSeq, e0, sThen_nx, ev_sSeq, sFor_ok hi, e, sThen_nx]; rfl
      exact fnM_ret hb
    · show closB n ps bl ke = true
      unfold closB
      rw [List.all_eq_true]
      intro k hk
      rw [List.mem_range] at hk
      cases k with
      | zero => exact s0
      | succ k => exact al (k + 1) (by omega) (by omega)
  · refine ⟨some w, ?_, k, by omega, by omega, k3, k4, fun j hj => ?_⟩
    · have hb : body_seen_by_one [some (hous n ps), some (.tuple (ke.map encW)), some (.tuple (bl.map encW)), none, none, none, none, none] = .ret (wayD w) ρ := by
        rw [body_seen_by_one, ev_sSeq, e0, sThen_nx, ev_sSeq, sFor_ok hi, e]; rfl
      exact fnM_ret hb
    · cases j with
      | zero => exact s0
      | succ j => exact k5 (j + 1) (by omega) hj
theorem Sbo.none {r : Option (List Int)} (h : Sbo n ps bl ke r) : closB n ps bl ke = r.isNone := by
  cases r with
  | none => exact h
  | some w =>
    obtain ⟨k, h1, h2, h3, h4, _⟩ := h
    show _ = false
    cases q : closB n ps bl ke with
    | false => rfl
    | true =>
      have := List.all_eq_true.mp q k (List.mem_range.mpr (by omega))
      exact absurd (subB_iff.mp this w h3) h4
theorem closer_t (h : HsOk n ps) (h1 : WsOk n ps bl) (h2 : WsOk n ps ke) : m_closer [hous n ps, .tuple (bl.map encW), .tuple (ke.map encW)] = .ok (.bool (closB n ps bl ke)) [none, none, none] := by
  obtain ⟨r, e, s⟩ := seen_by_one_t h h1.ok h2.ok
  have c1 := fun ρ => call2 (ρ := ρ) (need_watchers_t h h1)
  have c2 := fun ρ => call2 (ρ := ρ) (need_watchers_t h h2)
  have c3 := fun ρ => call3 (ρ := ρ) e
  have : isN (optW r) .none = some (.bool (closB n ps bl ke)) := by rw [s.none]; cases r <;> rfl
  simp [m_closer, fnM, outE, body_closer, c1, c2, c3, this]
end
end U

set_option maxRecDepth 100000
set_option linter.all false
set_option maxHeartbeats 4000000
namespace U
open PySem PySem.Spec PyProof.Rows L2 RZ PD
open PySem.W (dataLt alike alikeAll keyToks keyToksAll)
theorem cut_take (l : List D) (i : Nat) : PD.cutD l none (some (i : Int)) = l.take i := by
  unfold PD.cutD
  rw [HT.sIx_none, HT.sIx_nat, List.drop_zero, Nat.sub_zero]
  by_cases h : i ≤ l.length
  · rw [Nat.min_eq_left h]
  · rw [Nat.min_eq_right (by omega), List.take_of_length_le (Nat.le_refl _), List.take_of_length_le (by omega)]
theorem cut_drop (l : List D) (i : Nat) : PD.cutD l (some (i : Int)) none = l.drop i := by
  unfold PD.cutD
  rw [HT.sIx_none, HT.sIx_nat]
  by_cases h : i ≤ l.length
  · rw [Nat.min_eq_left h, List.take_of_length_le (by rw [List.length_drop]; omega)]
  · rw [Nat.min_eq_right (by omega), List.drop_of_length_le (Nat.le_refl _), List.drop_of_length_le (by omega)]; simp
section
variable {n : Int} {ps : List (Int × Int)} {ws : List Wt}
/-- the watchers without one -/
def wo (ws : List Wt) (i : Nat) : List Wt := ws.take i ++ ws.drop (i + 1)
theorem wo_sub (ws : List Wt) (i : Nat) : (wo ws i).Sublist ws := by
  unfold wo
  rw [← List.eraseIdx_eq_take_drop_succ]
  exact List.eraseIdx_sublist ws i
theorem wo_ok (hw : WsOk n ps ws) (i : Nat) : WsOk n ps (wo ws i) := ⟨fun w h => hw.ok w ((wo_sub ws i).subset h), Nat.le_trans (wo_sub ws i).length_le hw.ln, hw.up.sublist (wo_sub ws i)⟩
theorem wo_enc (ws : List Wt) (i : Nat) (hl : ws.length ≤ 100) : addD (.tuple (PD.cutD (ws.map encW) none (some (i : Int)))) (.tuple (PD.cutD (ws.map encW) (some ((i : Int) + 1)) none)) = some (.tuple ((wo ws i).map encW)) := by
  have h1 := cut_take (ws.map encW) i
  have h2 := cut_drop (ws.map encW) (i + 1)
  rw [Int.natCast_add] at h2
  rw [h1, show ((i : Int) + 1) = (i : Int) + ((1 : Nat) : Int) from rfl, h2, addT]
  · unfold wo; rw [List.map_append, List.map_take, List.map_drop]
  · rw [List.length_take, List.length_drop, List.length_map]; show _ ≤ 1000000; omega
theorem spare_t (h : HsOk n ps) (hw : WsOk n ps ws) : m_spare [hous n ps, .tuple (ws.map encW)] = .ok (.list (((List.range ws.length).filter fun i => closB n ps (wo ws i) ws).map fun i : Nat => PyData.int (i : Nat))) [none, none] := by
  have c1 := fun ρ => call2 (ρ := ρ) (need_watchers_t h hw)
  have hl := hw.ln
  obtain ⟨ρ', e, x, rfl⟩ := forGo_pre (T := .nm 3) (body := fb_spare_1) (fun i : Nat => PyData.int (i : Nat)) (fun pre ρ => ∃ x, ρ = [some (hous n ps), some (.tuple (ws.map encW)), some (.list ((pre.filter fun i => closB n ps (wo ws i) ws).map fun i : Nat => PyData.int (i : Nat))), x]) (List.range ws.length) [] [some (hous n ps), some (.tuple (ws.map encW)), some (.list []), none] ⟨none, rfl⟩ (by
    rintro p i q ρ hp ⟨x, rfl⟩
    obtain ⟨rfl, hlt⟩ := range_at hp
    have we := wo_enc ws p.length (by omega)
    have c := fun ρ => call3 (ρ := ρ) (closer_t h (wo_ok hw p.length) hw)
    have hlen : ((p.filter fun i => closB n ps (wo ws i) ws).map fun i : Nat => PyData.int (i : Nat)).length < lim := by
      have := List.length_filter_le (fun i => closB n ps (wo ws i) ws) p
      rw [List.length_map]; show _ < 1000000; omega
    refine ⟨[some (hous n ps), some (.tuple (ws.map encW)), some (.list ((p.filter fun i => closB n ps (wo ws i) ws).map fun i : Nat => PyData.int (i : Nat))), some (.int (p.length : Nat))], [some (hous n ps), some (.tuple (ws.map encW)), some (.list (((p ++ [p.length]).filter fun i => closB n ps (wo ws i) ws).map fun i : Nat => PyData.int (i : Nat))), some (.int (p.length : Nat))], by simp [bindT], .inl ?_, some (.int (p.length : Nat)), rfl⟩
    rw [List.filter_append, List.map_append]
    generalize ((p.filter fun i => closB n ps (wo ws i) ws).map fun i : Nat => PyData.int (i : Nat)) = A at hlen ⊢
    cases q1 : closB n ps (wo ws p.length) ws <;> rw [q1] at c <;> simp [fb_spare_1, slD, addI, we, c, boolD, q1, List.filter_cons, eMut, valsOf, appD, hlen, show A.length + 1 ≤ lim from hlen])
  have rg := rgI_ok (a := 0) (b := (ws.length : Int)) (by omega) (by omega)
  have hi : (iRg1 (eOpN lenD (aCons (oVal (eVar 1)) aNil))) [some (hous n ps), some (.tuple (ws.map encW)), some (.list []), none] = .ok ((List.range ws.length).map fun i : Nat => PyData.int (i : Nat)) [some (hous n ps), some (.tuple (ws.map encW)), some (.list []), none] := by
    rw [← rgD0]
    simp [lenD, derefs, rg]
  have hb : body_spare [some (hous n ps), some (.tuple (ws.map encW)), none, none] = .ret (.list (((List.range ws.length).filter fun i => closB n ps (wo ws i) ws).map fun i : Nat => PyData.int (i : Nat))) [some (hous n ps), some (.tuple (ws.map encW)), none, x] := by
    have e0 : (sDrop (eCall 2 none m_need_watchers (aCons (oVal (eVar 0)) (aCons (oVal (eVar 1)) aNil)))) [some (hous n ps), some (.tuple (ws.map encW)), none, none] = .nx [some (hous n ps), some (.tuple (ws.map encW)), none, none] := by simp [c1]
    have e1 : (sSet 2 (eLst aNil)) [some (hous n ps), some (.tuple (ws.map encW)), none, none] = .nx [some (hous n ps), some (.tuple (ws.map encW)), some (.list []), none] := rfl
    rw [body_spare, ev_sSeq, e0, sThen_nx, ev_sSeq, e1, sThen_nx, ev_sSeq, sFor_ok hi, e, sThen_nx]
    simp [eMov]
  exact fnM_ret hb
/-- whether a goal is barred -/
def barB (n : Int) (ps : List (Int × Int)) (ws : List Wt) (g : Int) (k : Nat) : Bool := !((List.range (k + 1)).any fun b => (fw n ps ws b g).isSome)
theorem needed_for_t (h : HsOk n ps) (hw : WsOk n ps ws) {g : Int} (hg : 1 ≤ g ∧ g < n) (k : Nat) (hk : k ≤ 29) : m_needed_for [hous n ps, .tuple (ws.map encW), .int g, .int ((k : Nat) + 1)] = .ok (.list (((List.range ws.length).filter fun i => barB n ps ws g k && !barB n ps (wo ws i) g k).map fun i : Nat => PyData.int (i : Nat))) [none, none, none, none] := by
  have c1 := fun ρ => call4 (ρ := ρ) (need_all_t h hw hg k hk)
  have cb : ∀ ρ, callM 4 none m_is_barred [.val (hous n ps), .val (.tuple (ws.map encW)), .val (.int g), .val (.int ((k : Nat) + 1))] ρ = .ok (.bool (barB n ps ws g k)) ρ := fun ρ => call4 (ρ := ρ) (is_barred_t h hw.ok g k (by omega))
  have hl := hw.ln
  cases qb : barB n ps ws g k with
  | false =>
    rw [qb] at cb
    simp [m_needed_for, fnM, outE, body_needed_for, c1, cb, boolD, valsOf, show (0 : Nat) ≤ lim by decide]
  | true =>
    rw [qb] at cb
    simp only [Bool.true_and]
    obtain ⟨ρ', e, x, rfl⟩ := forGo_pre (T := .nm 5) (body := fb_needed_for_1) (fun i : Nat => PyData.int (i : Nat)) (fun pre ρ => ∃ x, ρ = [some (hous n ps), some (.tuple (ws.map encW)), some (.int g), some (.int ((k : Nat) + 1)), some (.list ((pre.filter fun i => !barB n ps (wo ws i) g k).map fun i : Nat => PyData.int (i : Nat))), x]) (List.range ws.length) [] [some (hous n ps), some (.tuple (ws.map encW)), some (.int g), some (.int ((k : Nat) + 1)), some (.list []), none] ⟨none, rfl⟩ (by
      rintro p i q ρ hp ⟨x, rfl⟩
      obtain ⟨rfl, hlt⟩ := range_at hp
      have we := wo_enc ws p.length (by omega)
      have c : ∀ ρ, callM 4 none m_is_barred [.val (hous n ps), .val (.tuple ((wo ws p.length).map encW)), .val (.int g), .val (.int ((k : Nat) + 1))] ρ = .ok (.bool (barB n ps (wo ws p.length) g k)) ρ := fun ρ => call4 (ρ := ρ) (is_barred_t h (wo_ok hw p.length).ok g k (by omega))
      have hlen : ((p.filter fun i => !barB n ps (wo ws i) g k).map fun i : Nat => PyData.int (i : Nat)).length < lim := by
        have := List.length_filter_le (fun i => !barB n ps (wo ws i) g k) p
        rw [List.length_map]; show _ < 1000000; omega
      refine ⟨[some (hous n ps), some (.tuple (ws.map encW)), some (.int g), some (.int ((k : Nat) + 1)), some (.list ((p.filter fun i => !barB n ps (wo ws i) g k).map fun i : Nat => PyData.int (i : Nat))), some (.int (p.length : Nat))], [some (hous n ps), some (.tuple (ws.map encW)), some (.int g), some (.int ((k : Nat) + 1)), some (.list (((p ++ [p.length]).filter fun i => !barB n ps (wo ws i) g k).map fun i : Nat => PyData.int (i : Nat))), some (.int (p.length : Nat))], by simp [bindT], .inl ?_, some (.int (p.length : Nat)), rfl⟩
      rw [List.filter_append, List.map_append]
      generalize ((p.filter fun i => !barB n ps (wo ws i) g k).map fun i : Nat => PyData.int (i : Nat)) = A at hlen ⊢
      cases q1 : barB n ps (wo ws p.length) g k <;> rw [q1] at c <;> simp [fb_needed_for_1, slD, addI, we, c, boolD, q1, List.filter_cons, eMut, valsOf, appD, hlen, show A.length + 1 ≤ lim from hlen])
    have rg := rgI_ok (a := 0) (b := (ws.length : Int)) (by omega) (by omega)
    have hi : (iRg1 (eOpN lenD (aCons (oVal (eVar 1)) aNil))) [some (hous n ps), some (.tuple (ws.map encW)), some (.int g), some (.int ((k : Nat) + 1)), some (.list []), none] = .ok ((List.range ws.length).map fun i : Nat => PyData.int (i : Nat)) [some (hous n ps), some (.tuple (ws.map encW)), some (.int g), some (.int ((k : Nat) + 1)), some (.list []), none] := by
      rw [← rgD0]
      simp [lenD, derefs, rg]
    have hb : body_needed_for [some (hous n ps), some (.tuple (ws.map encW)), some (.int g), some (.int ((k : Nat) + 1)), none, none] = .ret (.list (((List.range ws.length).filter fun i => !barB n ps (wo ws i) g k).map fun i : Nat => PyData.int (i : Nat))) [some (hous n ps), some (.tuple (ws.map encW)), some (.int g), some (.int ((k : Nat) + 1)), none, x] := by
      have e0 : (sDrop (eCall 4 none m_need_all (aCons (oVal (eVar 0)) (aCons (oVal (eVar 1)) (aCons (oVal (eVar 2)) (aCons (oVal (eVar 3)) aNil)))))) [some (hous n ps), some (.tuple (ws.map encW)), some (.int g), some (.int ((k : Nat) + 1)), none, none] = .nx [some (hous n ps), some (.tuple (ws.map encW)), some (.int g), some (.int ((k : Nat) + 1)), none, none] := by simp [c1]
      have e1 : (sIf (bNot (bOf (eCall 4 none m_is_barred (aCons (oVal (eVar 0)) (aCons (oVal (eVar 1)) (aCons (oVal (eVar 2)) (aCons (oVal (eVar 3)) aNil))))))) (sRet (eLst aNil)) sNil) [some (hous n ps), some (.tuple (ws.map encW)), some (.int g), some (.int ((k : Nat) + 1)), none, none] = .nx [some (hous n ps), some (.tuple (ws.map encW)), some (.int g), some (.int ((k : Nat) + 1)), none, none] := by simp [cb, boolD]
      have e2 : (sSet 4 (eLst aNil)) [some (hous n ps), some (.tuple (ws.map encW)), some (.int g), some (.int ((k : Nat) + 1)), none, none] = .nx [some (hous n ps), some (.tuple (ws.map encW)), some (.int g), some (.int ((k : Nat) + 1)), some (.list []), none] := rfl
      rw [body_needed_for, ev_sSeq, e0, sThen_nx, ev_sSeq, e1, sThen_nx, ev_sSeq, e2, sThen_nx, ev_sSeq, sFor_ok hi, e, sThen_nx]
      simp [eMov]
    exact fnM_ret hb
end
end U

set_option maxRecDepth 100000
set_option linter.all false
set_option maxHeartbeats 4000000
namespace U
open PySem PySem.Spec PyProof.Rows L2 RZ PD
open PySem.W (dataLt alike alikeAll keyToks keyToksAll)
theorem eqD_nilS {m : Nat} {xs : List D} (h : shp m (.list xs) = true) (hm : m ≤ 64 := by decide) : eqD (.list xs) (.list []) = some (.bool xs.isEmpty) := by
  rw [eqD_shp (m := 1) h rfl hm]
  cases xs <;> rfl
theorem neD_nilS {m : Nat} {xs : List D} (h : shp m (.list xs) = true) (hm : m ≤ 64 := by decide) : neD (.list xs) (.list []) = some (.bool !xs.isEmpty) := by
  rw [neD_shp (m := 1) h rfl hm]
  cases xs <;> rfl
theorem filter_isEmpty {α : Type} (p : α → Bool) (l : List α) : (l.filter p).isEmpty = !l.any p := by
  induction l with
  | nil => rfl
  | cons x l ih => rw [List.filter_cons, List.any_cons]; cases p x <;> simp [ih]
theorem neD_ints (a b : List Int) : neD (intsL a) (intsL b) = some (.bool !decide (a = b)) := by
  rw [neD_shp (ints_shp a) (ints_shp b), eqvL PyData.int int_inj (fun _ => rfl)]
theorem nats_ints (l : List Nat) : (l.map fun i : Nat => PyData.int (i : Nat)) = (l.map fun i : Nat => ((i : Nat) : Int)).map PyData.int := by simp
abbrev natI (i : Nat) : D := .int (i : Nat)
theorem natI_inj (a b : Nat) (h : natI a = natI b) : a = b := by have := int_inj _ _ h; omega
theorem neD_nats (a b : List Nat) : neD (.list (a.map natI)) (.list (b.map natI)) = some (.bool !decide (a = b)) := by
  rw [neD_shp (map_shp (m := 0) natI (fun _ => rfl) a).1 (map_shp (m := 0) natI (fun _ => rfl) b).1, eqvL natI natI_inj (fun _ => rfl)]
theorem inD_nats (i : Nat) (l : List Nat) : inD (natI i) (.list (l.map natI)) = some (.bool (decide (i ∈ l))) := by
  rw [inD_shp (k := 0) (m := 1) rfl (map_shp (m := 0) natI (fun _ => rfl) l).1, any_eqv natI natI_inj (fun _ => rfl)]
theorem neD_bool (a b : Bool) : neD (.bool a) (.bool b) = some (.bool (a != b)) := by
  rw [neD_shp (n := 0) (m := 0) rfl rfl]
  cases a <;> cases b <;> rfl
theorem eqD_bool (a b : Bool) : eqD (.bool a) (.bool b) = some (.bool (a == b)) := by
  rw [eqD_shp (n := 0) (m := 0) rfl rfl]
  cases a <;> cases b <;> rfl
section
variable {n : Int} {ps : List (Int × Int)} {ws : List Wt}
theorem opn_fw (b : Nat) {g : Int} (hg : 0 ≤ g ∧ g < n) : decide (g ∈ opn n ps ws b) = (fw n ps ws b g).isSome := by
  rw [Bool.eq_iff_iff, decide_eq_true_eq]
  unfold opn
  rw [List.mem_filter, mem_rooms]
  exact ⟨fun z => z.2, fun z => ⟨hg, z⟩⟩
/-- the beats in which a goal is open -/
def opb (n : Int) (ps : List (Int × Int)) (ws : List Wt) (g : Int) (k : Nat) : List D := ((List.range (k + 1)).filter fun b => (fw n ps ws b g).isSome).map fun b => intsL (opn n ps ws b)
theorem opb_lc {T : Tg} {cond : PD.Env → Res Bool} {elt : PD.Env → Res D} {own : List Nat} {ρ : PD.Env} {g : Int} (hg : 0 ≤ g ∧ g < n) (k : Nat) (env : D → PD.Env) (h1 : ∀ d, bindT T d ρ = some (env d)) (h2 : ∀ l b, inD (.int g) (intsL l) = some (.bool b) → cond (env (intsL l)) = .ok b (env (intsL l))) (h3 : ∀ d, elt (env d) = .ok d (env d)) (h4 : ∀ d, wipeD (env d) own = ρ) :
    lcGo T cond elt own ((List.range (k + 1)).map fun b => intsL (opn n ps ws b)) ρ = .ok (opb n ps ws g k) ρ :=
  lcGo_filterT (fun b => intsL (opn n ps ws b)) _ (fun b => intsL (opn n ps ws b)) _ fun b _ => by
    have i := inD_ints g (opn n ps ws b)
    rw [opn_fw b hg] at i
    exact ⟨_, _, h1 _, h2 _ _ i, fun _ => h4 _, fun _ => ⟨_, h3 _, h4 _⟩⟩
theorem opb_shp (g : Int) (k : Nat) : shp 2 (.list (opb n ps ws g k)) = true := (map_shp (fun b => intsL (opn n ps ws b)) (fun b => ints_shp _) _).1
theorem opb_empty (g : Int) (k : Nat) : (opb n ps ws g k).isEmpty = barB n ps ws g k := by
  unfold opb barB
  rw [List.isEmpty_map, filter_isEmpty]
theorem fw_isSome {b : Nat} {g : Int} : (fw n ps ws b g).isSome = true ↔ ∃ w ∈ gw n ps ws b, lst w = g := by
  unfold fw
  rw [List.find?_isSome]
  simp
theorem barB_iff {g : Int} {k : Nat} : barB n ps ws g k = true ↔ ∀ b ≤ k, ∀ w ∈ gw n ps ws b, lst w ≠ g := by
  unfold barB
  rw [Bool.not_eq_true', List.any_eq_false]
  constructor
  · intro h b hb w hw e
    exact h b (List.mem_range.mpr (by omega)) (fw_isSome.mpr ⟨w, hw, e⟩)
  · intro h b hb z
    obtain ⟨w, hw, e⟩ := fw_isSome.mp z
    exact h b (by have := List.mem_range.mp hb; omega) w hw e
theorem findSome_none {α β : Type} (f : α → Option β) : ∀ l : List α, (l.findSome? f).isNone = !l.any fun x => (f x).isSome
  | [] => rfl
  | x :: l => by
    rw [List.findSome?_cons, List.any_cons]
    cases e : f x with
    | none => simp [findSome_none f l]
    | some y => simp
theorem uns_none (g : Int) (k : Nat) : (uns n ps ws k g).isNone = barB n ps ws g k := findSome_none _ _
theorem isN_optW (r : Option (List Int)) : isN (optW r) .none = some (.bool r.isNone) := by cases r <;> rfl
theorem notN_optW (r : Option (List Int)) : notN (optW r) .none = some (.bool !r.isNone) := by cases r <;> rfl
theorem closB_iff {one other : List Wt} : closB n ps one other = true ↔ ∀ k ≤ 29, ∀ w ∈ gw n ps one k, w ∈ gw n ps other k := by
  unfold closB
  rw [List.all_eq_true]
  constructor
  · intro h k hk
    exact subB_iff.mp (h k (List.mem_range.mpr (by omega)))
  · intro h k hk
    exact subB_iff.mpr (h k (by have := List.mem_range.mp hk; omega))
theorem clos_bar {one other : List Wt} (h : closB n ps one other = true) {g : Int} {k : Nat} (hk : k ≤ 29) (hb : barB n ps other g k = true) : barB n ps one g k = true := by
  rw [barB_iff] at hb ⊢
  intro b h1 w hw
  exact hb b h1 w (closB_iff.mp h b (by omega) w hw)
end
end U

set_option maxRecDepth 100000
set_option linter.all false
set_option maxHeartbeats 4000000
namespace U
open PySem PySem.Spec PyProof.Rows L2 RZ PD
open PySem.W (dataLt alike alikeAll keyToks keyToksAll)
section
variable {n : Int} {ps : List (Int × Int)} {ws one other : List Wt}
theorem parted_t (h : HsOk n ps) (h1 : WsOk n ps one) (h2 : WsOk n ps other) : ∃ r, m_parted [hous n ps, .tuple (one.map encW), .tuple (other.map encW)] = .ok (optW r) [none, none, none] ∧ r.isNone = (closB n ps other one && closB n ps one other) := by
  obtain ⟨r1, e1, s1⟩ := seen_by_one_t h h2.ok h1.ok
  obtain ⟨r2, e2, s2⟩ := seen_by_one_t h h1.ok h2.ok
  have c1 := fun ρ => call2 (ρ := ρ) (need_watchers_t h h1)
  have c2 := fun ρ => call2 (ρ := ρ) (need_watchers_t h h2)
  have c3 := fun ρ => call3 (ρ := ρ) e1
  have c4 := fun ρ => call3 (ρ := ρ) e2
  have n1 := notN_optW r1
  cases r1 with
  | none =>
    refine ⟨r2, ?_, by rw [s1.none, s2.none]; rfl⟩
    simp [m_parted, fnM, outE, body_parted, c1, c2, c3, n1, boolD, c4]
  | some w =>
    refine ⟨some w, ?_, by rw [s1.none]; rfl⟩
    simp [m_parted, fnM, outE, body_parted, c1, c2, c3, n1, boolD]
theorem seen_mono (h : ∀ w ∈ one, w ∈ other) {z : Option Sp} {k : Int} (hs : seen other z k = false) : seen one z k = false := by
  cases q : seen one z k with
  | false => rfl
  | true =>
    obtain ⟨w, hw, e⟩ := seen_iff.mp q
    rw [seen_iff.mpr ⟨w, h w hw, e⟩] at hs; cases hs
theorem gw_mono (h : ∀ w ∈ one, w ∈ other) : ∀ (b : Nat) {w : List Int}, w ∈ gw n ps other b → w ∈ gw n ps one b
  | 0, w, hw => hw
  | b + 1, w, hw => by
    rw [gw, List.mem_flatMap] at hw
    obtain ⟨v, hv, hw⟩ := hw
    obtain ⟨o, ho, rfl⟩ := List.mem_map.mp hw
    rw [gw_snoc]
    refine ⟨gw_mono h b hv, ?_⟩
    rw [List.mem_filter] at ho
    refine List.mem_filter.mpr ⟨ho.1, ?_⟩
    have := ho.2
    unfold stp at this ⊢
    rw [Bool.and_eq_true, Bool.not_eq_true', Bool.not_eq_true'] at this ⊢
    exact ⟨seen_mono h this.1, seen_mono h this.2⟩
theorem clos_more (h : ∀ w ∈ one, w ∈ other) : closB n ps other one = true := closB_iff.mpr fun k _ w hw => gw_mono h k hw
theorem gw_eq (hn : 0 < n) (h : ∀ w ∈ one, w ∈ other) (c : closB n ps one other = true) {b : Nat} (hb : b ≤ 29) : gw n ps one b = gw n ps other b := by
  have nd : ∀ l : List (List Int), l.Pairwise (· < ·) → l.Nodup := fun l u => u.imp fun {a c} (h : a < c) (e : a = c) => by subst e; exact lex_irrefl' _ h
  have u1 := gw_up (n := n) (ps := ps) (ws := one) hn b
  have u2 := gw_up (n := n) (ps := ps) (ws := other) hn b
  refine eq_of_perm_le (le := (· < ·)) ((List.perm_ext_iff_of_nodup (nd _ u1) (nd _ u2)).mpr fun w => ⟨fun z => closB_iff.mp c b hb w z, fun z => gw_mono h b z⟩) u1 u2 fun a _ b _ h1 h2 => absurd h2 (lex_asymm h1)
theorem uns_eq (hn : 0 < n) (h : ∀ w ∈ one, w ∈ other) (c : closB n ps one other = true) {k : Nat} (hk : k ≤ 29) (g : Int) : uns n ps one k g = uns n ps other k g := by
  unfold uns
  have : ∀ l : List Nat, (∀ b ∈ l, b ≤ 29) → l.findSome? (fun b => fw n ps one b g) = l.findSome? fun b => fw n ps other b g := by
    intro l
    induction l with
    | nil => intro _; rfl
    | cons b l ih =>
      intro hl
      rw [List.findSome?_cons, List.findSome?_cons, ih fun x hx => hl x (List.mem_cons_of_mem _ hx)]
      have : fw n ps one b g = fw n ps other b g := by unfold fw; rw [gw_eq hn h c (hl b List.mem_cons_self)]
      rw [this]
  exact this _ fun b hb => by have := List.mem_range.mp hb; omega
theorem neD_optW (r : Option (List Int)) : neD (optW r) (optW r) = some (.bool false) := by
  have sh : shp 1 (optW r) = true := by cases r with | none => rfl | some w => exact way_shp w
  have pl : plainK (optW r) = true := by cases r with | none => rfl | some w => exact way_plain w
  rw [neD_shp sh sh, eqv_refl _ pl]; rfl
end
end U

set_option Elab.async false
set_option linter.all false
set_option maxRecDepth 100000
set_option maxHeartbeats 4000000
namespace U
open PySem PySem.Spec PyProof.Rows L2 RZ PD
def rk : Nat → Nat := fun k => match k with | 0 => 0 | 1 => 1 | 2 => 2 | _ => 4
def Γ_law : Nat → T := fun i => match i with | 1 => .lst .fz | _ => .fz
def st_law_9 : PD.Env → SR := (sRet (eOp2 leD (oVal (eOpN lenD (aCons (oVal (eVar 4)) aNil))) (oVal (eOpN lenD (aCons (oVal (eVar 3)) aNil)))))
def fb_law_3 : PD.Env → SR := (sIf (bOf (eOp2 isN (oVal (eCall 3 none m_parted (aCons (oVal (eVar 2)) (aCons (oVal (eOp2 addD (oVal (eSl slD (oVal (eVar 4)) pNone (pSome (eVar 7)))) (oVal (eSl slD (oVal (eVar 4)) (pSome (eOp2 addD (oVal (eVar 7)) (oVal (eC (.int 1))))) pNone)))) (aCons (oVal (eVar 4)) aNil))))) (oVal (eC .none)))) (sRet (eC (.bool false))) sNil)
def st_law_8 : PD.Env → SR := (sFor (.nm 7) (iRg1 (eOpN lenD (aCons (oVal (eVar 4)) aNil))) fb_law_3)
def fb_law_2 : PD.Env → SR := (sIf (bOf (eOp2 neD (oVal (eCall 4 none m_unseen (aCons (oVal (eVar 2)) (aCons (oVal (eVar 4)) (aCons (oVal (eVar 6)) (aCons (oVal (eC (.int 12))) aNil)))))) (oVal (eCall 4 none m_unseen (aCons (oVal (eVar 2)) (aCons (oVal (eVar 3)) (aCons (oVal (eVar 6)) (aCons (oVal (eC (.int 12))) aNil)))))))) (sRet (eC (.bool false))) sNil)
def st_law_7 : PD.Env → SR := (sFor (.nm 6) (iRg2 (eC (.int 1)) (eOp2 ixD (oVal (eVar 2)) (oVal (eC (.int 0))))) fb_law_2)
def st_law_6 : PD.Env → SR := (sIf (bOr (bNot (bOf (eCall 3 none m_closer (aCons (oVal (eVar 2)) (aCons (oVal (eVar 4)) (aCons (oVal (eVar 3)) aNil)))))) (bOf (eOp2 notN (oVal (eCall 3 none m_parted (aCons (oVal (eVar 2)) (aCons (oVal (eVar 4)) (aCons (oVal (eVar 3)) aNil))))) (oVal (eC .none))))) (sRet (eC (.bool false))) sNil)
def fb_law_1 : PD.Env → SR := (sSeq (sSet 5 (eOp2 ixD (oVal (eCall 2 none m_spare (aCons (oVal (eVar 2)) (aCons (oVal (eVar 4)) aNil)))) (oVal (eOp1 negD (oVal (eC (.int 1))))))) (sSet 4 (eOp2 addD (oVal (eSl slD (oVal (eVar 4)) pNone (pSome (eVar 5)))) (oVal (eSl slD (oVal (eVar 4)) (pSome (eOp2 addD (oVal (eVar 5)) (oVal (eC (.int 1))))) pNone)))))
def wt_law_1 : PD.Env → Res Bool := (bOf (eOp2 neD (oVal (eCall 2 none m_spare (aCons (oVal (eVar 2)) (aCons (oVal (eVar 4)) aNil)))) (oVal (eLst aNil))))
def st_law_5 : PD.Env → SR := (sWhile wt_law_1 fb_law_1)
def st_law_4 : PD.Env → SR := (sSet 4 (eVar 3))
def st_law_3 : PD.Env → SR := (sSet 3 (eCall 4 (some (1, 1)) m__law_watchers (aCons (oVal (eVar 0)) (aCons (oLend 1) (aCons (oVal (eVar 2)) (aCons (oVal (eC (.int 6))) aNil))))))
def st_law_2 : PD.Env → SR := (sSet 2 (eCall 3 (some (1, 1)) m__law_house (aCons (oVal (eVar 0)) (aCons (oLend 1) (aCons (oVal (eC (.int 5))) aNil)))))
def st_law_1 : PD.Env → SR := (sSet 1 (eLst aNil))
def body_law : PD.Env → SR := (sSeq st_law_1 (sSeq st_law_2 (sSeq st_law_3 (sSeq st_law_4 (sSeq st_law_5 (sSeq st_law_6 (sSeq st_law_7 (sSeq st_law_8 st_law_9))))))))
def m_law : List D → Res D := fnM none 1 7 body_law
end U

set_option maxRecDepth 100000
set_option linter.all false
set_option maxHeartbeats 4000000
namespace U
open PySem PySem.Spec PyProof.Rows L2 RZ PD
open PySem.W (dataLt alike alikeAll keyToks keyToksAll)
section
variable {n : Int} {ps : List (Int × Int)} {ws : List Wt}
abbrev spN (n : Int) (ps : List (Int × Int)) (l : List Wt) : List Nat := (List.range l.length).filter fun i => closB n ps (wo l i) l
theorem last_nat {l : List Nat} (h : l ≠ []) : ∃ i ∈ l, ixD (.list (l.map natI)) (.int (-1)) = some (.int (i : Nat)) := by
  refine ⟨l.getLast h, List.getLast_mem h, ?_⟩
  show L2.atI (l.map natI) (-1) = _
  conv => lhs; rw [← List.dropLast_concat_getLast h, List.map_append]
  exact L2.atI_last _ _
theorem loop37 (h : HsOk n ps) (s t W : Option D) : ∀ (m : Nat) (left : List Wt) (x : Option D) (f : Nat), left.length ≤ m → m < f → WsOk n ps left → (∀ w ∈ left, w ∈ ws) → closB n ps left ws = true →
    ∃ left' x', whGo wt_law_1 fb_law_1 f [s, t, some (hous n ps), W, some (.tuple (left.map encW)), x, none, none] = .nx [s, t, some (hous n ps), W, some (.tuple (left'.map encW)), x', none, none] ∧ WsOk n ps left' ∧ (∀ w ∈ left', w ∈ ws) ∧ closB n ps left' ws = true ∧ left'.length ≤ left.length ∧ spN n ps left' = [] := by
  intro m
  induction m with
  | zero =>
    intro left x f hl hf hw hs hc
    obtain ⟨f, rfl⟩ : ∃ g, f = g + 1 := ⟨f - 1, by omega⟩
    have e0 : left = [] := List.eq_nil_of_length_eq_zero (by omega)
    have sp : spN n ps left = [] := by rw [e0]; rfl
    have c := fun ρ => call2 (ρ := ρ) (spare_t h hw)
    rw [show (List.range left.length).filter (fun i => closB n ps (wo left i) left) = [] from sp] at c
    refine ⟨left, x, ?_, hw, hs, hc, Nat.le_refl _, sp⟩
    have ne : neD (.list []) (.list []) = some (.bool false) := rfl
    have tt : wt_law_1 [s, t, some (hous n ps), W, some (.tuple (left.map encW)), x, none, none] = .ok false [s, t, some (hous n ps), W, some (.tuple (left.map encW)), x, none, none] := by
      simp [wt_law_1, c, valsOf, show (0 : Nat) ≤ lim by decide, ne, boolD]
    rw [whGo, tt]; rfl
  | succ m ih =>
    intro left x f hl hf hw hs hc
    obtain ⟨f, rfl⟩ : ∃ g, f = g + 1 := ⟨f - 1, by omega⟩
    have c := fun ρ => call2 (ρ := ρ) (spare_t h hw)
    have ne := neD_nilS (map_shp (m := 0) natI (fun _ => rfl) (spN n ps left)).1
    by_cases q : spN n ps left = []
    · refine ⟨left, x, ?_, hw, hs, hc, Nat.le_refl _, q⟩
      rw [show (List.range left.length).filter (fun i => closB n ps (wo left i) left) = [] from q] at c
      have ne : neD (.list []) (.list []) = some (.bool false) := rfl
      have tt : wt_law_1 [s, t, some (hous n ps), W, some (.tuple (left.map encW)), x, none, none] = .ok false [s, t, some (hous n ps), W, some (.tuple (left.map encW)), x, none, none] := by
        simp [wt_law_1, c, valsOf, show (0 : Nat) ≤ lim by decide, ne, boolD]
      rw [whGo, tt]; rfl
    · obtain ⟨i, hi, ix⟩ := last_nat q
      have hi2 := List.mem_filter.mp hi
      have hlt : i < left.length := List.mem_range.mp hi2.1
      have e1 : ((spN n ps left).map natI).isEmpty = false := by cases h : spN n ps left with | nil => exact absurd h q | cons _ _ => rfl
      rw [e1] at ne
      have we := wo_enc left i (by have := hw.ln; omega)
      have tt : wt_law_1 [s, t, some (hous n ps), W, some (.tuple (left.map encW)), x, none, none] = .ok true [s, t, some (hous n ps), W, some (.tuple (left.map encW)), x, none, none] := by
        simp [wt_law_1, c, valsOf, show (0 : Nat) ≤ lim by decide, ne, boolD]
      have bb : fb_law_1 [s, t, some (hous n ps), W, some (.tuple (left.map encW)), x, none, none] = .nx [s, t, some (hous n ps), W, some (.tuple ((wo left i).map encW)), some (.int (i : Nat)), none, none] := by
        simp [fb_law_1, c, negD, ix, slD, addI, we]
      have hwl : (wo left i).length ≤ m := by
        have : (wo left i).length = left.length - 1 := by
          unfold wo
          rw [List.length_append, List.length_take, List.length_drop]
          omega
        omega
      obtain ⟨left', x', e, h1, h2, h3, h4, h5⟩ := ih (wo left i) (some (.int (i : Nat))) f hwl (by omega) (wo_ok hw i) (fun w z => hs w ((wo_sub left i).subset z)) (closB_iff.mpr fun k hk w z => closB_iff.mp hc k hk w (closB_iff.mp hi2.2 k hk w z))
      refine ⟨left', x', ?_, h1, h2, h3, Nat.le_trans h4 (wo_sub left i).length_le, h5⟩
      rw [whGo, tt, bS_ok, if_pos rfl, bb]
      exact e
theorem law_ok (ns : List Int) : ∃ ρ, m_law [scr ns] = .ok (.bool true) ρ := by
  obtain ⟨n, ps, t1, h, l1, cH⟩ := house_e ns [] 5 (by decide) (by simp)
  obtain ⟨ws, t2, l2, hw, hlw, _, cW⟩ := watchers_e h ns t1 6 (by decide) (by simp at l1; omega)
  have hn : 0 < n := by have := h.lo; omega
  obtain ⟨left, x5, ew, hL, hs, hc, hll, hsp⟩ := loop37 (ws := ws) h (some (scr ns)) (some (.list t2)) (some (.tuple (ws.map encW))) ws.length ws none lim (Nat.le_refl _) (by have := hw.ln; show _ < 1000000; omega) hw (fun w z => z) (closB_iff.mpr fun k _ w z => z)
  have cc := fun ρ => call3 (ρ := ρ) (closer_t h hL hw)
  rw [hc] at cc
  have cm := clos_more (n := n) (ps := ps) hs
  obtain ⟨r, ep, er⟩ := parted_t h hL hw
  rw [cm, hc] at er
  have cp := fun ρ => call3 (ρ := ρ) ep
  have np := notN_optW r
  rw [er] at np
  have ix0 : ∀ a b : D, ixD (.tuple [a, b]) (.int 0) = some a := fun a b => rfl
  have rgn := rg_ok h.lo h.hi
  have hlen := hL.ln
  -- the goals
  obtain ⟨ρ', e7, z, rfl⟩ := forGo_pre (T := .nm 6) (body := fb_law_2) (fun i : Nat => PyData.int (1 + (i : Nat))) (fun pre ρ => ∃ z, ρ = [some (scr ns), some (.list t2), some (hous n ps), some (.tuple (ws.map encW)), some (.tuple (left.map encW)), x5, z, none]) (List.range (n - 1).toNat) [] [some (scr ns), some (.list t2), some (hous n ps), some (.tuple (ws.map encW)), some (.tuple (left.map encW)), x5, none, none] ⟨none, rfl⟩ (by
    rintro p i q ρ hp ⟨z, rfl⟩
    have hi : i < (n - 1).toNat := List.mem_range.mp (by rw [show List.range (n - 1).toNat = p ++ i :: q from hp]; simp)
    have hg : 1 ≤ (1 : Int) + (i : Nat) ∧ (1 : Int) + (i : Nat) < n := ⟨by omega, by omega⟩
    have c1 : ∀ ρ, callM 4 none m_unseen [.val (hous n ps), .val (.tuple (left.map encW)), .val (.int (1 + (i : Nat))), .val (.int 12)] ρ = .ok (optW (uns n ps left 11 (1 + (i : Nat)))) ρ := fun ρ => call4 (ρ := ρ) (unseen_t h hL hg 11 (by omega))
    have c2 : ∀ ρ, callM 4 none m_unseen [.val (hous n ps), .val (.tuple (ws.map encW)), .val (.int (1 + (i : Nat))), .val (.int 12)] ρ = .ok (optW (uns n ps ws 11 (1 + (i : Nat)))) ρ := fun ρ => call4 (ρ := ρ) (unseen_t h hw hg 11 (by omega))
    rw [uns_eq hn hs hc (by omega)] at c1
    have ne := neD_optW (uns n ps ws 11 (1 + (i : Nat)))
    generalize hgi : (1 : Int) + (i : Nat) = g at c1 c2 ne
    refine ⟨[some (scr ns), some (.list t2), some (hous n ps), some (.tuple (ws.map encW)), some (.tuple (left.map encW)), x5, some (.int g), none], [some (scr ns), some (.list t2), some (hous n ps), some (.tuple (ws.map encW)), some (.tuple (left.map encW)), x5, some (.int g), none], by simp [bindT, hgi], .inl ?_, some (.int g), rfl⟩
    simp [fb_law_2, c1, c2, ne, boolD])
  rw [← rgAB] at e7
  -- the numbers
  obtain ⟨ρ', e8, y, rfl⟩ := forGo_pre (T := .nm 7) (body := fb_law_3) (fun i : Nat => PyData.int (i : Nat)) (fun pre ρ => ∃ y, ρ = [some (scr ns), some (.list t2), some (hous n ps), some (.tuple (ws.map encW)), some (.tuple (left.map encW)), x5, z, y]) (List.range left.length) [] [some (scr ns), some (.list t2), some (hous n ps), some (.tuple (ws.map encW)), some (.tuple (left.map encW)), x5, z, none] ⟨none, rfl⟩ (by
    rintro p i q ρ hp ⟨y, rfl⟩
    obtain ⟨rfl, hlt⟩ := range_at hp
    obtain ⟨r2, e2, er2⟩ := parted_t h (wo_ok hL p.length) hL
    have c2 := fun ρ => call3 (ρ := ρ) e2
    have cf : closB n ps (wo left p.length) left = false := by
      cases q : closB n ps (wo left p.length) left with
      | false => rfl
      | true =>
        have : p.length ∈ spN n ps left := List.mem_filter.mpr ⟨List.mem_range.mpr hlt, q⟩
        rw [hsp] at this; cases this
    rw [cf, Bool.and_false] at er2
    have n2 := isN_optW r2
    rw [er2] at n2
    have we := wo_enc left p.length (by omega)
    refine ⟨[some (scr ns), some (.list t2), some (hous n ps), some (.tuple (ws.map encW)), some (.tuple (left.map encW)), x5, z, some (.int (p.length : Nat))], [some (scr ns), some (.list t2), some (hous n ps), some (.tuple (ws.map encW)), some (.tuple (left.map encW)), x5, z, some (.int (p.length : Nat))], by simp [bindT], .inl ?_, some (.int (p.length : Nat)), rfl⟩
    simp [fb_law_3, slD, addI, we, c2, n2, boolD])
  have rg8 := rgI_ok (a := 0) (b := (left.length : Int)) (by omega) (by omega)
  have s1 : st_law_1 [some (scr ns), none, none, none, none, none, none, none] = .nx [some (scr ns), some (.list []), none, none, none, none, none, none] := by
    rfl
  have s2 : st_law_2 [some (scr ns), some (.list []), none, none, none, none, none, none] = .nx [some (scr ns), some (.list t1), some (hous n ps), none, none, none, none, none] := by
    simp [st_law_2, cH]
  have s3 : st_law_3 [some (scr ns), some (.list t1), some (hous n ps), none, none, none, none, none] = .nx [some (scr ns), some (.list t2), some (hous n ps), some (.tuple (ws.map encW)), none, none, none, none] := by
    simp [st_law_3, cW]
  have s4 : st_law_4 [some (scr ns), some (.list t2), some (hous n ps), some (.tuple (ws.map encW)), none, none, none, none] = .nx [some (scr ns), some (.list t2), some (hous n ps), some (.tuple (ws.map encW)), some (.tuple (ws.map encW)), none, none, none] := by
    rfl
  have s5 : st_law_5 [some (scr ns), some (.list t2), some (hous n ps), some (.tuple (ws.map encW)), some (.tuple (ws.map encW)), none, none, none] = .nx [some (scr ns), some (.list t2), some (hous n ps), some (.tuple (ws.map encW)), some (.tuple (left.map encW)), x5, none, none] := by
    exact ew
  have s6 : st_law_6 [some (scr ns), some (.list t2), some (hous n ps), some (.tuple (ws.map encW)), some (.tuple (left.map encW)), x5, none, none] = .nx [some (scr ns), some (.list t2), some (hous n ps), some (.tuple (ws.map encW)), some (.tuple (left.map encW)), x5, none, none] := by
    simp [st_law_6, cc, boolD, cp, np]
  have s7 : st_law_7 [some (scr ns), some (.list t2), some (hous n ps), some (.tuple (ws.map encW)), some (.tuple (left.map encW)), x5, none, none] = .nx [some (scr ns), some (.list t2), some (hous n ps), some (.tuple (ws.map encW)), some (.tuple (left.map encW)), x5, z, none] := by
    have hi : (iRg2 (eC (.int 1)) (eOp2 ixD (oVal (eVar 2)) (oVal (eC (.int 0))))) [some (scr ns), some (.list t2), some (hous n ps), some (.tuple (ws.map encW)), some (.tuple (left.map encW)), x5, none, none] = .ok (rgD 1 n) [some (scr ns), some (.list t2), some (hous n ps), some (.tuple (ws.map encW)), some (.tuple (left.map encW)), x5, none, none] := by simp [ix0, rgn]
    rw [st_law_7, sFor_ok hi]; exact e7
  have s8 : st_law_8 [some (scr ns), some (.list t2), some (hous n ps), some (.tuple (ws.map encW)), some (.tuple (left.map encW)), x5, z, none] = .nx [some (scr ns), some (.list t2), some (hous n ps), some (.tuple (ws.map encW)), some (.tuple (left.map encW)), x5, z, y] := by
    have hi : (iRg1 (eOpN lenD (aCons (oVal (eVar 4)) aNil))) [some (scr ns), some (.list t2), some (hous n ps), some (.tuple (ws.map encW)), some (.tuple (left.map encW)), x5, z, none] = .ok ((List.range left.length).map fun i : Nat => PyData.int (i : Nat)) [some (scr ns), some (.list t2), some (hous n ps), some (.tuple (ws.map encW)), some (.tuple (left.map encW)), x5, z, none] := by
      rw [← rgD0]
      simp [lenD, derefs, rg8]
    rw [st_law_8, sFor_ok hi]; exact e8
  have s9 : st_law_9 [some (scr ns), some (.list t2), some (hous n ps), some (.tuple (ws.map encW)), some (.tuple (left.map encW)), x5, z, y] = .ret (.bool true) [some (scr ns), some (.list t2), some (hous n ps), some (.tuple (ws.map encW)), some (.tuple (left.map encW)), x5, z, y] := by
    simp [st_law_9, lenD, derefs, leD_int]; omega
  refine ⟨outE none 1 [some (scr ns), some (.list t2), some (hous n ps), some (.tuple (ws.map encW)), some (.tuple (left.map encW)), x5, z, y], fnM_ret ?_⟩
  show body_law [some (scr ns), none, none, none, none, none, none, none] = _
  rw [body_law, ev_sSeq, s1, sThen_nx, ev_sSeq, s2, sThen_nx, ev_sSeq, s3, sThen_nx, ev_sSeq, s4, sThen_nx, ev_sSeq, s5, sThen_nx, ev_sSeq, s6, sThen_nx, ev_sSeq, s7, sThen_nx, ev_sSeq, s8, sThen_nx, s9]
end
end U

set_option Elab.async false
set_option linter.all false
set_option maxRecDepth 100000
set_option maxHeartbeats 4000000
namespace U
open PySem PySem.Spec PyProof.Rows L2 RZ PD
def top (i : Nat) : Stmt := PySem.Challenge.pw_unseenways_k37_whole_spare_ones_go.main.body.getD i (.Pass ⟨0, 0, 0, 0⟩)
abbrev s__law_cell_at : Stmt := top 40
abbrev s__law_mixed : Stmt := top 41
abbrev s__law_draw : Stmt := top 42
abbrev s__law_house : Stmt := top 44
abbrev s__law_pick : Stmt := top 43
abbrev s__law_spots : Stmt := top 45
abbrev s__law_watchers : Stmt := top 46
abbrev s_is_whole : Stmt := top 11
abbrev s_is_rising : Stmt := top 12
abbrev s_is_door : Stmt := top 13
abbrev s_is_house : Stmt := top 14
abbrev s_need_house : Stmt := top 15
abbrev s_all_spots : Stmt := top 16
abbrev s_is_spot : Stmt := top 17
abbrev s_is_watcher : Stmt := top 18
abbrev s_are_watching : Stmt := top 19
abbrev s_need_watchers : Stmt := top 20
abbrev s_beside : Stmt := top 22
abbrev s_door_of : Stmt := top 26
abbrev s_sees : Stmt := top 25
abbrev s_seers : Stmt := top 27
abbrev s_next_rows : Stmt := top 33
abbrev s_seen_by_one : Stmt := top 34
abbrev s_closer : Stmt := top 35
abbrev s_spare : Stmt := top 38
abbrev s_parted : Stmt := top 36
abbrev s_need_goal : Stmt := top 21
abbrev s_need_all : Stmt := top 30
abbrev s_steps_from : Stmt := top 28
abbrev s_ways_by_beat : Stmt := top 29
abbrev s_unseen : Stmt := top 31
abbrev s_law : Stmt := top 53
theorem rk_cases (k : Nat) : rk k = 0 ∨ rk k = 1 ∨ rk k = 2 ∨ rk k = 4 := by
  unfold rk
  split <;> simp
def cls (A : Nat → Addr) : Nat → Value := fun k => .ref (A (rk k))
structure Txt (K : PySem.W.Frag) (mg : Str → Option Value) (A : Nat → Addr) (CW : Addr) : Prop where
  b_all : mg "all" = none
  b_any : mg "any" = none
  b_bool : mg "bool" = none
  b_enumerate : mg "enumerate" = none
  b_int : mg "int" = none
  b_isinstance : mg "isinstance" = none
  b_len : mg "len" = none
  b_list : mg "list" = none
  b_max : mg "max" = none
  b_min : mg "min" = none
  b_range : mg "range" = none
  b_sorted : mg "sorted" = none
  b_str : mg "str" = none
  b_tuple : mg "tuple" = none
  b_zip : mg "zip" = none
  c_BEATS : ∃ tk, mg "BEATS" = some (.int 6 tk)
  c_DOORS : ∃ tk, mg "DOORS" = some (.int 20 tk)
  c_MANY : ∃ tk, mg "MANY" = some (.int 30 tk)
  c_ROOMS : ∃ tk, mg "ROOMS" = some (.int 10 tk)
  c_WATCHERS : ∃ tk, mg "WATCHERS" = some (.int 12 tk)
  f__law_cell_at : FnT K mg "_law_cell_at" s__law_cell_at ["_law_script", "_law_k"]
  f__law_mixed : FnT K mg "_law_mixed" s__law_mixed ["_law_script", "_law_k", "_law_many"]
  f__law_draw : FnT K mg "_law_draw" s__law_draw ["_law_script", "_law_town", "_law_many"]
  f__law_house : FnT K mg "_law_house" s__law_house ["_law_script", "_law_town", "_law_most"]
  f__law_pick : FnT K mg "_law_pick" s__law_pick ["_law_script", "_law_town", "_law_some"]
  f__law_spots : FnT K mg "_law_spots" s__law_spots ["_law_house_here"]
  f__law_watchers : FnT K mg "_law_watchers" s__law_watchers ["_law_script", "_law_town", "_law_house_here", "_law_most"]
  f_is_whole : FnT K mg "is_whole" s_is_whole ["thing", "low", "most"]
  f_is_rising : FnT K mg "is_rising" s_is_rising ["thing"]
  f_is_door : FnT K mg "is_door" s_is_door ["rooms", "thing"]
  f_is_house : FnT K mg "is_house" s_is_house ["thing"]
  f_need_house : FnT K mg "need_house" s_need_house ["thing"]
  f_all_spots : FnT K mg "all_spots" s_all_spots ["house"]
  f_is_spot : FnT K mg "is_spot" s_is_spot ["house", "thing"]
  f_is_watcher : FnT K mg "is_watcher" s_is_watcher ["house", "thing"]
  f_are_watching : FnT K mg "are_watching" s_are_watching ["house", "thing"]
  f_need_watchers : FnT K mg "need_watchers" s_need_watchers ["house", "thing"]
  f_beside : FnT K mg "beside" s_beside ["house", "room"]
  f_door_of : FnT K mg "door_of" s_door_of ["one", "other"]
  f_sees : FnT K mg "sees" s_sees ["watcher", "spot", "beat"]
  f_seers : FnT K mg "seers" s_seers ["watchers", "some", "beat"]
  f_next_rows : FnT K mg "next_rows" s_next_rows ["house", "blind", "keen", "rows", "beat"]
  f_seen_by_one : FnT K mg "seen_by_one" s_seen_by_one ["house", "keen", "blind"]
  f_closer : FnT K mg "closer" s_closer ["house", "one", "other"]
  f_spare : FnT K mg "spare" s_spare ["house", "watchers"]
  f_parted : FnT K mg "parted" s_parted ["house", "one", "other"]
  f_need_goal : FnT K mg "need_goal" s_need_goal ["house", "thing"]
  f_need_all : FnT K mg "need_all" s_need_all ["house", "watchers", "goal", "many"]
  f_steps_from : FnT K mg "steps_from" s_steps_from ["house", "watchers", "room", "beat"]
  f_ways_by_beat : FnT K mg "ways_by_beat" s_ways_by_beat ["house", "watchers", "many"]
  f_unseen : FnT K mg "unseen" s_unseen ["house", "watchers", "goal", "many"]
  g_WayError : mg "WayError" = some (.ref CW)
  g_NoHouse : mg "NoHouse" = some (.ref (A 0))
  g_NoWatchers : mg "NoWatchers" = some (.ref (A 1))
  g_NoGoal : mg "NoGoal" = some (.ref (A 2))
  g_NoCount : mg "NoCount" = some (.ref (A 4))
  xc : ∀ k, PySem.W.excIn K (A (rk k)) [.type "ValueError", .type "Exception", .type "BaseException", .type "object"] "ValueError.__new__" = true
  kc : ∀ k, PySem.W.keepIn K (.ref (A (rk k))) = true
  sb : ∀ k, PySem.W.subIn K (.ref (A (rk k))) (.type "BaseException") = some true
  xm : ∀ k, PySem.W.exmOne K (.ref (A (rk k))) (.ref CW) = some true
  ec : ∀ k, ExcC K (A (rk k))
  kv : ∀ k, PySem.W.kitOne K (.ref (A (rk k))) (.type "ValueError") = some true
  ty : ∀ k, PySem.W.typeIn K (.ref (A (rk k))) = some (.type "type")
section
variable {P : Program} {w : World} {K : PySem.W.Frag} {mg : Str → Option Value} {base : Heap} {A : Nat → Addr} {CW : Addr}
abbrev K__law_cell_at (P : Program) (w : World) (K : PySem.W.Frag) (mg : Str → Option Value) (base : Heap) (A : Nat → Addr) : Prop := Kn P w K mg base "_law_cell_at" 1 ["_law_script", "_law_k"] Γ__law_cell_at (cls A) none 2 .fz m__law_cell_at
theorem sc__law_cell_at : FnScope ["_law_script", "_law_k"] ["_law_script", "_law_k"] (defScope s__law_cell_at) := ⟨rfl, rfl, rfl, by decide +kernel, rfl, by decide +kernel, by decide +kernel⟩
theorem ok__law_cell_at (T : Txt K mg A CW) : K__law_cell_at P w K mg base A := by
  obtain ⟨f, fd, Fn, g, b⟩ := T.f__law_cell_at
  have sc := sc__law_cell_at
  exact ⟨f, g, Fn.kp, fd, b, fn_ok (N := ["_law_script", "_law_k"]) (lev := 0) (n := 2) (k := 0) Fn sc rfl rfl fun cdv A outer s H E O vs hr =>
    (dss_cons (ds_if (dt_cmp (op_ltD (hu64 hr)) pv_cmp (do_val (dx_var (i := 1) (by exact rfl) (by exact Or.inl rfl) (by exact rfl))) (do_val (dx_callB call_lenA pv_len (by exact rfl) T.b_len (by exact rfl) (da_cons (do_val (dx_var (i := 0) (by exact rfl) (by exact Or.inl rfl) (by exact rfl))) da_nil))) (nomark _)) (dss_one (ds_ret (dx_ix ix_seq pv_ix (do_val (dx_var (i := 0) (by exact rfl) (by exact Or.inl rfl) (by exact rfl))) (do_val (dx_var (i := 1) (by exact rfl) (by exact Or.inl rfl) (by exact rfl))) (fun _ _ => rfl)))) dss_nil) (dss_cons (ds_if (dt_cmp (op_eqD (hu64 hr)) pv_eq (do_val (dx_var (i := 0) (by exact rfl) (by exact Or.inl rfl) (by exact rfl))) (do_val (dx_frz (dx_lst da_nil))) (nomark _)) (dss_one (ds_ret dx_int)) dss_nil) (dss_one (ds_ret (dx_bin op_addA pv_add (do_val (dx_bin op_mulA pv_mul (do_val (dx_ix ix_seq pv_ix (do_val (dx_var (i := 0) (by exact rfl) (by exact Or.inl rfl) (by exact rfl))) (do_val (dx_bin op_mod pv_mod (do_val (dx_var (i := 1) (by exact rfl) (by exact Or.inl rfl) (by exact rfl))) (do_val (dx_callB call_lenA pv_len (by exact rfl) T.b_len (by exact rfl) (da_cons (do_val (dx_var (i := 0) (by exact rfl) (by exact Or.inl rfl) (by exact rfl))) da_nil))))) (fun _ _ => rfl))) (do_val dx_int))) (do_val (dx_var (i := 1) (by exact rfl) (by exact Or.inl rfl) (by exact rfl))))))))⟩
abbrev K__law_mixed (P : Program) (w : World) (K : PySem.W.Frag) (mg : Str → Option Value) (base : Heap) (A : Nat → Addr) : Prop := Kn P w K mg base "_law_mixed" 2 ["_law_script", "_law_k", "_law_many"] Γ__law_mixed (cls A) none 3 .fz m__law_mixed
theorem sc__law_mixed : FnScope ["_law_script", "_law_k", "_law_many", "_law_drawn"] ["_law_script", "_law_k", "_law_many"] (defScope s__law_mixed) := ⟨rfl, rfl, rfl, by decide +kernel, rfl, by decide +kernel, by decide +kernel⟩
theorem ok__law_mixed (T : Txt K mg A CW) (k__law_cell_at : K__law_cell_at P w K mg base A) : K__law_mixed P w K mg base A := by
  obtain ⟨f, fd, Fn, g, b⟩ := T.f__law_mixed
  have sc := sc__law_mixed
  exact ⟨f, g, Fn.kp, fd, b, fn_ok (N := ["_law_script", "_law_k", "_law_many", "_law_drawn"]) (lev := 1) (n := 3) (k := 1) Fn sc rfl rfl fun cdv A outer s H E O vs hr =>
    (dss_cons (ds_set sc.nd (i := 3) (by exact rfl) (by exact Or.inl rfl) (by exact rfl) (by exact Or.inl rfl) (dx_bin op_mod pv_mod (do_val (dx_bin op_addA pv_add (do_val (dx_bin op_addA pv_add (do_val (dx_bin op_mulA pv_mul (do_val (dx_kn none (Γc := Γ__law_cell_at) k__law_cell_at (by exact rfl) (takes_of (by exact rfl) (by exact rfl) (by exact rfl) (by exact rfl)) hr (by decide) (by exact rfl) (by exact rfl) (fun q e => nomatch e) (da_cons (do_val (dx_var (i := 0) (by exact rfl) (by exact Or.inl rfl) (by exact rfl))) (da_cons (do_val (dx_var (i := 1) (by exact rfl) (by exact Or.inl rfl) (by exact rfl))) da_nil)))) (do_val dx_int))) (do_val (dx_bin op_mulA pv_mul (do_val dx_int) (do_val (dx_var (i := 1) (by exact rfl) (by exact Or.inl rfl) (by exact rfl))))))) (do_val dx_int))) (do_val dx_int))) (dss_one (ds_ret (dx_bin op_mod pv_mod (do_val (dx_bin op_mod pv_mod (do_val (dx_bin op_mod pv_mod (do_val (dx_bin op_pow pv_pow (do_val (dx_var (i := 3) (by exact rfl) (by exact Or.inl rfl) (by exact rfl))) (do_val dx_int))) (do_val dx_int))) (do_val dx_int))) (do_val (dx_var (i := 2) (by exact rfl) (by exact Or.inl rfl) (by exact rfl)))))))⟩
abbrev K__law_draw (P : Program) (w : World) (K : PySem.W.Frag) (mg : Str → Option Value) (base : Heap) (A : Nat → Addr) : Prop := Kn P w K mg base "_law_draw" 3 ["_law_script", "_law_town", "_law_many"] Γ__law_draw (cls A) (some 1) 3 .fz m__law_draw
theorem sc__law_draw : FnScope ["_law_script", "_law_town", "_law_many"] ["_law_script", "_law_town", "_law_many"] (defScope s__law_draw) := ⟨rfl, rfl, rfl, by decide +kernel, rfl, by decide +kernel, by decide +kernel⟩
theorem ok__law_draw (T : Txt K mg A CW) (k__law_mixed : K__law_mixed P w K mg base A) : K__law_draw P w K mg base A := by
  obtain ⟨f, fd, Fn, g, b⟩ := T.f__law_draw
  have sc := sc__law_draw
  exact ⟨f, g, Fn.kp, fd, b, fn_ok (N := ["_law_script", "_law_town", "_law_many"]) (lev := 2) (n := 3) (k := 0) Fn sc rfl rfl fun cdv A outer s H E O vs hr =>
    (dss_cons (ds_expr (dx_mut (j := 1) (by exact rfl) (by exact rfl) (by exact Or.inl rfl) PySem.F.plainAttrs_list PySem.F.slot_list_append PySem.F.type_list_append mt_append pv_append (da_cons (do_val dx_int) da_nil) (by exact rfl) (by exact rfl) (by exact rfl) (by exact rfl) (by exact rfl))) (dss_one (ds_ret (dx_kn none (Γc := Γ__law_mixed) k__law_mixed (by exact rfl) (takes_of (by exact rfl) (by exact rfl) (by exact rfl) (by exact rfl)) hr (by decide) (by exact rfl) (by exact rfl) (fun q e => nomatch e) (da_cons (do_val (dx_var (i := 0) (by exact rfl) (by exact Or.inl rfl) (by exact rfl))) (da_cons (do_val (dx_callB call_lenA pv_len (by exact rfl) T.b_len (by exact rfl) (da_cons (do_slot (i := 1) (by exact rfl) (by exact Or.inl rfl) (by exact rfl)) da_nil))) (da_cons (do_val (dx_var (i := 2) (by exact rfl) (by exact Or.inl rfl) (by exact rfl))) da_nil)))))))⟩
abbrev K__law_house (P : Program) (w : World) (K : PySem.W.Frag) (mg : Str → Option Value) (base : Heap) (A : Nat → Addr) : Prop := Kn P w K mg base "_law_house" 4 ["_law_script", "_law_town", "_law_most"] Γ__law_house (cls A) (some 1) 3 .fz m__law_house
theorem sc__law_house : FnScope ["_law_script", "_law_town", "_law_most", "_law_share", "_law_many", "_law_doors", "_law_other", "_law_one"] ["_law_script", "_law_town", "_law_most"] (defScope s__law_house) := ⟨rfl, rfl, rfl, by decide +kernel, rfl, by decide +kernel, by decide +kernel⟩
theorem ok__law_house (T : Txt K mg A CW) (k__law_draw : K__law_draw P w K mg base A) : K__law_house P w K mg base A := by
  obtain ⟨f, fd, Fn, g, b⟩ := T.f__law_house
  have sc := sc__law_house
  exact ⟨f, g, Fn.kp, fd, b, fn_ok (N := ["_law_script", "_law_town", "_law_most", "_law_share", "_law_many", "_law_doors", "_law_other", "_law_one"]) (lev := 3) (n := 3) (k := 5) Fn sc rfl rfl fun cdv A outer s H E O vs hr =>
    (dss_cons (ds_set sc.nd (i := 3) (by exact rfl) (by exact Or.inl rfl) (by exact rfl) (by exact Or.inl rfl) (dx_kn (some (1, 1)) (Γc := Γ__law_draw) k__law_draw (by exact rfl) (takes_of (by exact rfl) (by exact rfl) (by exact rfl) (by exact rfl)) hr (by decide) (by exact rfl) (by exact rfl) (fun q e => by cases e; rfl) (da_cons (do_val (dx_var (i := 0) (by exact rfl) (by exact Or.inl rfl) (by exact rfl))) (da_cons (do_lend (i := 1) (by exact rfl) (by exact Or.inl rfl)) (da_cons (do_val dx_int) da_nil))))) (dss_cons (ds_set sc.nd (i := 4) (by exact rfl) (by exact Or.inl rfl) (by exact rfl) (by exact Or.inl rfl) (dx_bin op_addA pv_add (do_val dx_int) (do_val (dx_kn (some (1, 1)) (Γc := Γ__law_draw) k__law_draw (by exact rfl) (takes_of (by exact rfl) (by exact rfl) (by exact rfl) (by exact rfl)) hr (by decide) (by exact rfl) (by exact rfl) (fun q e => by cases e; rfl) (da_cons (do_val (dx_var (i := 0) (by exact rfl) (by exact Or.inl rfl) (by exact rfl))) (da_cons (do_lend (i := 1) (by exact rfl) (by exact Or.inl rfl)) (da_cons (do_val (dx_bin op_sub pv_sub (do_val (dx_var (i := 2) (by exact rfl) (by exact Or.inl rfl) (by exact rfl))) (do_val dx_int))) da_nil))))))) (dss_cons (ds_set sc.nd (i := 5) (by exact rfl) (by exact Or.inl rfl) (by exact rfl) (by exact Or.inl rfl) (dx_lst da_nil)) (dss_cons (ds_for (passes_of (by exact rfl)) (by exact rfl) (di_range2 (by exact rfl) T.b_range dx_int (dx_var (i := 4) (by exact rfl) (by exact Or.inl rfl) (by exact rfl))) (dg_name sc.nd (i := 6) (by exact rfl) (by exact Or.inl rfl) (by exact rfl) (by exact rfl) (by first | exact Or.inl rfl | exact Or.inr rfl)) (dss_one (ds_for (passes_of (by exact rfl)) (by exact rfl) (di_range1 (by exact rfl) T.b_range (dx_var (i := 6) (by exact rfl) (by exact Or.inl rfl) (by exact rfl))) (dg_name sc.nd (i := 7) (by exact rfl) (by exact Or.inl rfl) (by exact rfl) (by exact rfl) (by first | exact Or.inl rfl | exact Or.inr rfl)) (dss_one (ds_if (dt_w (dw_or (dt_cmp (op_ltD (hu64 hr)) pv_cmp (do_val (dx_kn (some (1, 1)) (Γc := Γ__law_draw) k__law_draw (by exact rfl) (takes_of (by exact rfl) (by exact rfl) (by exact rfl) (by exact rfl)) hr (by decide) (by exact rfl) (by exact rfl) (fun q e => by cases e; rfl) (da_cons (do_val (dx_var (i := 0) (by exact rfl) (by exact Or.inl rfl) (by exact rfl))) (da_cons (do_lend (i := 1) (by exact rfl) (by exact Or.inl rfl)) (da_cons (do_val dx_int) da_nil))))) (do_val (dx_var (i := 3) (by exact rfl) (by exact Or.inl rfl) (by exact rfl))) (nomark _)) (dw_or1 (dt_w (dw_and (dt_cmp (op_eqD (hu64 hr)) pv_eq (do_val (dx_var (i := 7) (by exact rfl) (by exact Or.inl rfl) (by exact rfl))) (do_val (dx_bin op_sub pv_sub (do_val (dx_var (i := 6) (by exact rfl) (by exact Or.inl rfl) (by exact rfl))) (do_val dx_int))) (nomark _)) (dw_and1 (dt_cmp (op_gtD (hu64 hr)) pv_cmp (do_val (dx_kn (some (1, 1)) (Γc := Γ__law_draw) k__law_draw (by exact rfl) (takes_of (by exact rfl) (by exact rfl) (by exact rfl) (by exact rfl)) hr (by decide) (by exact rfl) (by exact rfl) (fun q e => by cases e; rfl) (da_cons (do_val (dx_var (i := 0) (by exact rfl) (by exact Or.inl rfl) (by exact rfl))) (da_cons (do_lend (i := 1) (by exact rfl) (by exact Or.inl rfl)) (da_cons (do_val dx_int) da_nil))))) (do_val dx_int) (nomark _)))))))) (dss_one (ds_expr (dx_mut (j := 5) (by exact rfl) (by exact rfl) (by exact Or.inl rfl) PySem.F.plainAttrs_list PySem.F.slot_list_append PySem.F.type_list_append mt_append pv_append (da_cons (do_val (dx_tup (da_cons (do_val (dx_var (i := 7) (by exact rfl) (by exact Or.inl rfl) (by exact rfl))) (da_cons (do_val (dx_var (i := 6) (by exact rfl) (by exact Or.inl rfl) (by exact rfl))) da_nil)))) da_nil) (by exact rfl) (by exact rfl) (by exact rfl) (by exact rfl) (by exact rfl)))) dss_nil))))) (dss_one (ds_ret (dx_tup (da_cons (do_val (dx_var (i := 4) (by exact rfl) (by exact Or.inl rfl) (by exact rfl))) (da_cons (do_val (dx_callTy call_tuple_of pv_tuple (by exact rfl) T.b_tuple (by exact rfl) (da_cons (do_val (dx_sl sl_all pv_sl (do_val (dx_frz (dx_callB (cr_sortD (hu70 hr)) pv_sort (by exact rfl) T.b_sorted (by exact rfl) (da_cons (do_slot (i := 5) (by exact rfl) (by exact Or.inl rfl) (by exact rfl)) da_nil)))) dp_none (dp_some dx_int))) da_nil))) da_nil)))))))))⟩
abbrev K__law_pick (P : Program) (w : World) (K : PySem.W.Frag) (mg : Str → Option Value) (base : Heap) (A : Nat → Addr) : Prop := Kn P w K mg base "_law_pick" 4 ["_law_script", "_law_town", "_law_some"] Γ__law_pick (cls A) (some 1) 3 .fz m__law_pick
theorem sc__law_pick : FnScope ["_law_script", "_law_town", "_law_some"] ["_law_script", "_law_town", "_law_some"] (defScope s__law_pick) := ⟨rfl, rfl, rfl, by decide +kernel, rfl, by decide +kernel, by decide +kernel⟩
theorem ok__law_pick (T : Txt K mg A CW) (k__law_draw : K__law_draw P w K mg base A) : K__law_pick P w K mg base A := by
  obtain ⟨f, fd, Fn, g, b⟩ := T.f__law_pick
  have sc := sc__law_pick
  exact ⟨f, g, Fn.kp, fd, b, fn_ok (N := ["_law_script", "_law_town", "_law_some"]) (lev := 3) (n := 3) (k := 0) Fn sc rfl rfl fun cdv A outer s H E O vs hr =>
    (dss_one (ds_ret (dx_ix ix_seq pv_ix (do_val (dx_var (i := 2) (by exact rfl) (by exact Or.inl rfl) (by exact rfl))) (do_val (dx_kn (some (1, 1)) (Γc := Γ__law_draw) k__law_draw (by exact rfl) (takes_of (by exact rfl) (by exact rfl) (by exact rfl) (by exact rfl)) hr (by decide) (by exact rfl) (by exact rfl) (fun q e => by cases e; rfl) (da_cons (do_val (dx_var (i := 0) (by exact rfl) (by exact Or.inl rfl) (by exact rfl))) (da_cons (do_lend (i := 1) (by exact rfl) (by exact Or.inl rfl)) (da_cons (do_val (dx_callB call_lenA pv_len (by exact rfl) T.b_len (by exact rfl) (da_cons (do_val (dx_var (i := 2) (by exact rfl) (by exact Or.inl rfl) (by exact rfl))) da_nil))) da_nil))))) (fun _ _ => rfl))))⟩
abbrev K__law_spots (P : Program) (w : World) (K : PySem.W.Frag) (mg : Str → Option Value) (base : Heap) (A : Nat → Addr) : Prop := Kn P w K mg base "_law_spots" 1 ["_law_house_here"] Γ__law_spots (cls A) none 1 .fz m__law_spots
theorem sc__law_spots : FnScope ["_law_house_here", "_law_made", "_law_one", "_law_other", "_law_room"] ["_law_house_here"] (defScope s__law_spots) := ⟨rfl, rfl, rfl, by decide +kernel, rfl, by decide +kernel, by decide +kernel⟩
theorem ok__law_spots (T : Txt K mg A CW) : K__law_spots P w K mg base A := by
  obtain ⟨f, fd, Fn, g, b⟩ := T.f__law_spots
  have sc := sc__law_spots
  exact ⟨f, g, Fn.kp, fd, b, fn_ok (N := ["_law_house_here", "_law_made", "_law_one", "_law_other", "_law_room"]) (lev := 0) (n := 1) (k := 4) Fn sc rfl rfl fun cdv A outer s H E O vs hr =>
    (dss_cons (ds_set sc.nd (i := 1) (by exact rfl) (by exact Or.inl rfl) (by exact rfl) (by exact Or.inl rfl) (dx_lst da_nil)) (dss_cons (ds_for (passes_of (by exact rfl)) (by exact rfl) (di_of (by exact rfl) (dx_ix ix_seq pv_ix (do_val (dx_var (i := 0) (by exact rfl) (by exact Or.inl rfl) (by exact rfl))) (do_val dx_int) (fun _ _ => rfl))) (dg_tup (by exact rfl) (dgs_cons (dg_name sc.nd (i := 2) (by exact rfl) (by exact Or.inl rfl) (by exact rfl) (by exact rfl) (by first | exact Or.inl rfl | exact Or.inr rfl)) (dgs_cons (dg_name sc.nd (i := 3) (by exact rfl) (by exact Or.inl rfl) (by exact rfl) (by exact rfl) (by first | exact Or.inl rfl | exact Or.inr rfl)) dgs_nil)) (n := 2) (by exact rfl) (by exact rfl) (by exact rfl)) (dss_one (ds_expr (dx_mut (j := 1) (by exact rfl) (by exact rfl) (by exact Or.inl rfl) PySem.F.plainAttrs_list PySem.F.slot_list_append PySem.F.type_list_append mt_append pv_append (da_cons (do_val (dx_tup (da_cons (do_val (dx_str (z := "door"))) (da_cons (do_val (dx_var (i := 2) (by exact rfl) (by exact Or.inl rfl) (by exact rfl))) (da_cons (do_val (dx_var (i := 3) (by exact rfl) (by exact Or.inl rfl) (by exact rfl))) da_nil))))) da_nil) (by exact rfl) (by exact rfl) (by exact rfl) (by exact rfl) (by exact rfl))))) (dss_one (ds_ret (dx_frz (dx_callB (cr_sortD (hu70 hr)) pv_sort (by exact rfl) T.b_sorted (by exact rfl) (da_cons (do_val (dx_bin op_addA pv_add (do_slot (i := 1) (by exact rfl) (by exact Or.inl rfl) (by exact rfl)) (do_val (dx_frz (dx_lc (own := [("_law_room", 4)]) (T := (.nm 4)) (by exact rfl) sc.nd (di_range2 (by exact rfl) T.b_range dx_int (dx_ix ix_seq pv_ix (do_val (dx_var (i := 0) (by exact rfl) (by exact Or.inl rfl) (by exact rfl))) (do_val dx_int) (fun _ _ => rfl))) (blkOk_by (N := ["_law_house_here", "_law_made", "_law_one", "_law_other", "_law_room"]) (sc := defScope s__law_spots) (by decide +kernel)) (by decide) (all1 (by exact rfl)) (all1 (by exact rfl)) (fun O s H C cl fp => (dg_name sc.nd (i := 4) (by exact rfl) (by exact Or.inl rfl) (by exact rfl) (by exact rfl) (by first | exact Or.inl rfl | exact Or.inr rfl))) (fun O s H C cl fp => dts_nil) (fun O s H C cl fp => (dx_tup (da_cons (do_val (dx_str (z := "room"))) (da_cons (do_val (dx_var (i := 4) (by exact rfl) (by exact Or.inl rfl) (by exact rfl))) da_nil))))))))) da_nil)))))))⟩
abbrev K__law_watchers (P : Program) (w : World) (K : PySem.W.Frag) (mg : Str → Option Value) (base : Heap) (A : Nat → Addr) : Prop := Kn P w K mg base "_law_watchers" 5 ["_law_script", "_law_town", "_law_house_here", "_law_most"] Γ__law_watchers (cls A) (some 1) 4 .fz m__law_watchers
theorem sc__law_watchers : FnScope ["_law_script", "_law_town", "_law_house_here", "_law_most", "_law_made", "_law_k", "_law_beats", "_law_one"] ["_law_script", "_law_town", "_law_house_here", "_law_most"] (defScope s__law_watchers) := ⟨rfl, rfl, rfl, by decide +kernel, rfl, by decide +kernel, by decide +kernel⟩
theorem ok__law_watchers (T : Txt K mg A CW) (k__law_draw : K__law_draw P w K mg base A) (k__law_pick : K__law_pick P w K mg base A) (k__law_spots : K__law_spots P w K mg base A) : K__law_watchers P w K mg base A := by
  obtain ⟨f, fd, Fn, g, b⟩ := T.f__law_watchers
  have sc := sc__law_watchers
  exact ⟨f, g, Fn.kp, fd, b, fn_ok (N := ["_law_script", "_law_town", "_law_house_here", "_law_most", "_law_made", "_law_k", "_law_beats", "_law_one"]) (lev := 4) (n := 4) (k := 4) Fn sc rfl rfl fun cdv A outer s H E O vs hr =>
    (dss_cons (ds_set sc.nd (i := 4) (by exact rfl) (by exact Or.inl rfl) (by exact rfl) (by exact Or.inl rfl) (dx_lst da_nil)) (dss_cons (ds_for (passes_of (by exact rfl)) (by exact rfl) (di_range1 (by exact rfl) T.b_range (dx_kn (some (1, 1)) (Γc := Γ__law_draw) k__law_draw (by exact rfl) (takes_of (by exact rfl) (by exact rfl) (by exact rfl) (by exact rfl)) hr (by decide) (by exact rfl) (by exact rfl) (fun q e => by cases e; rfl) (da_cons (do_val (dx_var (i := 0) (by exact rfl) (by exact Or.inl rfl) (by exact rfl))) (da_cons (do_lend (i := 1) (by exact rfl) (by exact Or.inl rfl)) (da_cons (do_val (dx_bin op_addA pv_add (do_val (dx_var (i := 3) (by exact rfl) (by exact Or.inl rfl) (by exact rfl))) (do_val dx_int))) da_nil))))) (dg_name sc.nd (i := 5) (by exact rfl) (by exact Or.inl rfl) (by exact rfl) (by exact rfl) (by first | exact Or.inl rfl | exact Or.inr rfl)) (dss_cons (ds_set sc.nd (i := 6) (by exact rfl) (by exact Or.inl rfl) (by exact rfl) (by exact Or.inl rfl) (dx_kn (some (1, 1)) (Γc := Γ__law_pick) k__law_pick (by exact rfl) (takes_of (by exact rfl) (by exact rfl) (by exact rfl) (by exact rfl)) hr (by decide) (by exact rfl) (by exact rfl) (fun q e => by cases e; rfl) (da_cons (do_val (dx_var (i := 0) (by exact rfl) (by exact Or.inl rfl) (by exact rfl))) (da_cons (do_lend (i := 1) (by exact rfl) (by exact Or.inl rfl)) (da_cons (do_val (dx_frz (dx_lst (da_cons (do_val (dx_str (z := "#"))) (da_cons (do_val (dx_str (z := "#."))) (da_cons (do_val (dx_str (z := ".#"))) (da_cons (do_val (dx_str (z := "##."))) (da_cons (do_val (dx_str (z := "..#"))) (da_cons (do_val (dx_str (z := "#..#"))) (da_cons (do_val (dx_str (z := ".#.#"))) (da_cons (do_val (dx_str (z := "..."))) (da_cons (do_val (dx_str (z := "#.#.#."))) (da_cons (do_val (dx_str (z := ".##..#"))) da_nil))))))))))))) da_nil))))) (dss_cons (ds_set sc.nd (i := 7) (by exact rfl) (by exact Or.inl rfl) (by exact rfl) (by exact Or.inl rfl) (dx_tup (da_cons (do_val (dx_kn (some (1, 1)) (Γc := Γ__law_pick) k__law_pick (by exact rfl) (takes_of (by exact rfl) (by exact rfl) (by exact rfl) (by exact rfl)) hr (by decide) (by exact rfl) (by exact rfl) (fun q e => by cases e; rfl) (da_cons (do_val (dx_var (i := 0) (by exact rfl) (by exact Or.inl rfl) (by exact rfl))) (da_cons (do_lend (i := 1) (by exact rfl) (by exact Or.inl rfl)) (da_cons (do_val (dx_kn none (Γc := Γ__law_spots) k__law_spots (by exact rfl) (takes_of (by exact rfl) (by exact rfl) (by exact rfl) (by exact rfl)) hr (by decide) (by exact rfl) (by exact rfl) (fun q e => nomatch e) (da_cons (do_val (dx_var (i := 2) (by exact rfl) (by exact Or.inl rfl) (by exact rfl))) da_nil))) da_nil))))) (da_cons (do_val (dx_var (i := 6) (by exact rfl) (by exact Or.inl rfl) (by exact rfl))) da_nil)))) (dss_one (ds_if (dt_cmp (op_notInA (hu65 hr)) pv_notIn (do_val (dx_var (i := 7) (by exact rfl) (by exact Or.inl rfl) (by exact rfl))) (do_slot (i := 4) (by exact rfl) (by exact Or.inl rfl) (by exact rfl)) (by with_unfolding_all rfl)) (dss_one (ds_expr (dx_mut (j := 4) (by exact rfl) (by exact rfl) (by exact Or.inl rfl) PySem.F.plainAttrs_list PySem.F.slot_list_append PySem.F.type_list_append mt_append pv_append (da_cons (do_val (dx_var (i := 7) (by exact rfl) (by exact Or.inl rfl) (by exact rfl))) da_nil) (by exact rfl) (by exact rfl) (by exact rfl) (by exact rfl) (by exact rfl)))) dss_nil))))) (dss_one (ds_ret (dx_callTy call_tuple_of pv_tuple (by exact rfl) T.b_tuple (by exact rfl) (da_cons (do_val (dx_frz (dx_callB (cr_sortD (hu70 hr)) pv_sort (by exact rfl) T.b_sorted (by exact rfl) (da_cons (do_slot (i := 4) (by exact rfl) (by exact Or.inl rfl) (by exact rfl)) da_nil)))) da_nil))))))⟩
abbrev K_is_whole (P : Program) (w : World) (K : PySem.W.Frag) (mg : Str → Option Value) (base : Heap) (A : Nat → Addr) : Prop := Kn P w K mg base "is_whole" 1 ["thing", "low", "most"] Γ_is_whole (cls A) none 3 .fz m_is_whole
theorem sc_is_whole : FnScope ["thing", "low", "most"] ["thing", "low", "most"] (defScope s_is_whole) := ⟨rfl, rfl, rfl, by decide +kernel, rfl, by decide +kernel, by decide +kernel⟩
theorem ok_is_whole (T : Txt K mg A CW) : K_is_whole P w K mg base A := by
  obtain ⟨f, fd, Fn, g, b⟩ := T.f_is_whole
  have sc := sc_is_whole
  exact ⟨f, g, Fn.kp, fd, b, fn_ok (N := ["thing", "low", "most"]) (lev := 0) (n := 3) (k := 0) Fn sc rfl rfl fun cdv A outer s H E O vs hr =>
    (dss_one (ds_ret (dx_and (dx_isi .int (by exact rfl) (by exact rfl) T.b_isinstance (by exact rfl) T.b_int (by exact rfl) (do_val (dx_var (i := 0) (by exact rfl) (by exact Or.inl rfl) (by exact rfl))) (by exact rfl)) (dx_and (dx_not (dx_isi .bool (by exact rfl) (by exact rfl) T.b_isinstance (by exact rfl) T.b_bool (by exact rfl) (do_val (dx_var (i := 0) (by exact rfl) (by exact Or.inl rfl) (by exact rfl))) (by exact rfl))) (dx_one (dx_chain (op_leD (hu64 hr)) (op_leD (hu64 hr)) pv_cmp pv_cmp (do_val (dx_var (i := 1) (by exact rfl) (by exact Or.inl rfl) (by exact rfl))) (do_val (dx_var (i := 0) (by exact rfl) (by exact Or.inl rfl) (by exact rfl))) (do_val (dx_var (i := 2) (by exact rfl) (by exact Or.inl rfl) (by exact rfl))) (by with_unfolding_all rfl)))))))⟩
abbrev K_is_rising (P : Program) (w : World) (K : PySem.W.Frag) (mg : Str → Option Value) (base : Heap) (A : Nat → Addr) : Prop := Kn P w K mg base "is_rising" 1 ["thing"] Γ_is_rising (cls A) none 1 .fz m_is_rising
theorem sc_is_rising : FnScope ["thing", "one", "other"] ["thing"] (defScope s_is_rising) := ⟨rfl, rfl, rfl, by decide +kernel, rfl, by decide +kernel, by decide +kernel⟩
theorem ok_is_rising (T : Txt K mg A CW) : K_is_rising P w K mg base A := by
  obtain ⟨f, fd, Fn, g, b⟩ := T.f_is_rising
  have sc := sc_is_rising
  exact ⟨f, g, Fn.kp, fd, b, fn_ok (N := ["thing", "one", "other"]) (lev := 0) (n := 1) (k := 2) Fn sc rfl rfl fun cdv A outer s H E O vs hr =>
    (dss_one (ds_ret (dx_callB (cr_all (by exact rfl)) pv_all (by exact rfl) T.b_all (by exact rfl) (da_cons (do_val (dx_frz (dx_lc (own := [("one", 1), ("other", 2)]) (T := (.tp [(.nm 1), (.nm 2)])) (by exact rfl) sc.nd (di_zip (by exact rfl) (by exact rfl) T.b_zip (dx_var (i := 0) (by exact rfl) (by exact Or.inl rfl) (by exact rfl)) (dx_sl sl_all pv_sl (do_val (dx_var (i := 0) (by exact rfl) (by exact Or.inl rfl) (by exact rfl))) (dp_some dx_int) dp_none)) (blkOk_by (N := ["thing", "one", "other"]) (sc := defScope s_is_rising) (by decide +kernel)) (by decide) (all2 (by exact rfl) (by exact rfl)) (all2 (by exact rfl) (by exact rfl)) (fun O s H C cl fp => (dg_tup (by exact rfl) (dgs_cons (dg_name sc.nd (i := 1) (by exact rfl) (by exact Or.inl rfl) (by exact rfl) (by exact rfl) (by first | exact Or.inl rfl | exact Or.inr rfl)) (dgs_cons (dg_name sc.nd (i := 2) (by exact rfl) (by exact Or.inl rfl) (by exact rfl) (by exact rfl) (by first | exact Or.inl rfl | exact Or.inr rfl)) dgs_nil)) (n := 2) (by exact rfl) (by exact rfl) (by exact rfl))) (fun O s H C cl fp => dts_nil) (fun O s H C cl fp => (dx_cmp (op_ltD (hu64 hr)) pv_cmp (do_val (dx_var (i := 1) (by exact rfl) (by exact Or.inl rfl) (by exact rfl))) (do_val (dx_var (i := 2) (by exact rfl) (by exact Or.inl rfl) (by exact rfl))) (nomark _)))))) da_nil))))⟩
abbrev K_is_door (P : Program) (w : World) (K : PySem.W.Frag) (mg : Str → Option Value) (base : Heap) (A : Nat → Addr) : Prop := Kn P w K mg base "is_door" 2 ["rooms", "thing"] Γ_is_door (cls A) none 2 .fz m_is_door
theorem sc_is_door : FnScope ["rooms", "thing", "room"] ["rooms", "thing"] (defScope s_is_door) := ⟨rfl, rfl, rfl, by decide +kernel, rfl, by decide +kernel, by decide +kernel⟩
theorem ok_is_door (T : Txt K mg A CW) (k_is_whole : K_is_whole P w K mg base A) : K_is_door P w K mg base A := by
  obtain ⟨f, fd, Fn, g, b⟩ := T.f_is_door
  have sc := sc_is_door
  exact ⟨f, g, Fn.kp, fd, b, fn_ok (N := ["rooms", "thing", "room"]) (lev := 1) (n := 2) (k := 1) Fn sc rfl rfl fun cdv A outer s H E O vs hr =>
    (dss_cons (ds_if (dt_w (dw_or (dt_not (dt_val (dx_isi .tuple (by exact rfl) (by exact rfl) T.b_isinstance (by exact rfl) T.b_tuple (by exact rfl) (do_val (dx_var (i := 1) (by exact rfl) (by exact Or.inl rfl) (by exact rfl))) (by exact rfl)))) (dw_or (dt_cmp (op_neD (hu64 hr)) pv_ne (do_val (dx_callB call_lenA pv_len (by exact rfl) T.b_len (by exact rfl) (da_cons (do_val (dx_var (i := 1) (by exact rfl) (by exact Or.inl rfl) (by exact rfl))) da_nil))) (do_val dx_int) (nomark _)) (dw_or1 (dt_not (dt_val (dx_callB (cr_all (by exact rfl)) pv_all (by exact rfl) T.b_all (by exact rfl) (da_cons (do_val (dx_frz (dx_lc (own := [("room", 2)]) (T := (.nm 2)) (by exact rfl) sc.nd (di_of (by exact rfl) (dx_var (i := 1) (by exact rfl) (by exact Or.inl rfl) (by exact rfl))) (blkOk_by (N := ["rooms", "thing", "room"]) (sc := defScope s_is_door) (by decide +kernel)) (by decide) (all1 (by exact rfl)) (all1 (by exact rfl)) (fun O s H C cl fp => (dg_name sc.nd (i := 2) (by exact rfl) (by exact Or.inl rfl) (by exact rfl) (by exact rfl) (by first | exact Or.inl rfl | exact Or.inr rfl))) (fun O s H C cl fp => dts_nil) (fun O s H C cl fp => (dx_kn none (Γc := Γ_is_whole) k_is_whole (by exact rfl) takes0 hr (by decide) (by exact rfl) (by exact rfl) (fun q e => nomatch e) (da_cons (do_val (dx_var (i := 2) (by exact rfl) (by exact Or.inl rfl) (by exact rfl))) (da_cons (do_val dx_int) (da_cons (do_val (dx_bin op_sub pv_sub (do_val (dx_var (i := 0) (by exact rfl) (by first | exact Or.inr (Or.inl rfl) | exact Or.inr (Or.inr rfl)) (by exact rfl))) (do_val dx_int))) da_nil)))))))) da_nil)))))))) (dss_one (ds_ret dx_bl)) dss_nil) (dss_one (ds_ret (dx_cmp (op_ltD (hu64 hr)) pv_cmp (do_val (dx_ix ix_seq pv_ix (do_val (dx_var (i := 1) (by exact rfl) (by exact Or.inl rfl) (by exact rfl))) (do_val dx_int) (fun _ _ => rfl))) (do_val (dx_ix ix_seq pv_ix (do_val (dx_var (i := 1) (by exact rfl) (by exact Or.inl rfl) (by exact rfl))) (do_val dx_int) (fun _ _ => rfl))) (nomark _)))))⟩
abbrev K_is_house (P : Program) (w : World) (K : PySem.W.Frag) (mg : Str → Option Value) (base : Heap) (A : Nat → Addr) : Prop := Kn P w K mg base "is_house" 3 ["thing"] Γ_is_house (cls A) none 1 .fz m_is_house
theorem sc_is_house : FnScope ["thing", "door"] ["thing"] (defScope s_is_house) := ⟨rfl, rfl, rfl, by decide +kernel, rfl, by decide +kernel, by decide +kernel⟩
theorem ok_is_house (T : Txt K mg A CW) (k_is_whole : K_is_whole P w K mg base A) (k_is_rising : K_is_rising P w K mg base A) (k_is_door : K_is_door P w K mg base A) : K_is_house P w K mg base A := by
  obtain ⟨f, fd, Fn, g, b⟩ := T.f_is_house
  have sc := sc_is_house
  exact ⟨f, g, Fn.kp, fd, b, fn_ok (N := ["thing", "door"]) (lev := 2) (n := 1) (k := 1) Fn sc rfl rfl fun cdv A outer s H E O vs hr =>
    (dss_cons (ds_if (dt_w (dw_or (dt_not (dt_val (dx_isi .tuple (by exact rfl) (by exact rfl) T.b_isinstance (by exact rfl) T.b_tuple (by exact rfl) (do_val (dx_var (i := 0) (by exact rfl) (by exact Or.inr (Or.inl rfl)) (by exact rfl))) (by exact rfl)))) (dw_or (dt_cmp (op_neD (hu64 hr)) pv_ne (do_val (dx_callB call_lenA pv_len (by exact rfl) T.b_len (by exact rfl) (da_cons (do_val (dx_var (i := 0) (by exact rfl) (by exact Or.inr (Or.inl rfl)) (by exact rfl))) da_nil))) (do_val dx_int) (nomark _)) (dw_or1 (dt_not (dt_val (dx_kn none (Γc := Γ_is_whole) k_is_whole (by exact rfl) (takes_of (by exact rfl) (by exact rfl) (by exact rfl) (by exact rfl)) hr (by decide) (by exact rfl) (by exact rfl) (fun q e => nomatch e) (da_cons (do_val (dx_ix ix_seq pv_ix (do_val (dx_var (i := 0) (by exact rfl) (by exact Or.inr (Or.inl rfl)) (by exact rfl))) (do_val dx_int) (fun _ _ => rfl))) (da_cons (do_val dx_int) (da_cons (do_val (dx_gI (by exact rfl) T.c_ROOMS)) da_nil)))))))))) (dss_one (ds_ret dx_bl)) dss_nil) (dss_cons (ds_if (dt_w (dw_or (dt_not (dt_val (dx_isi .tuple (by exact rfl) (by exact rfl) T.b_isinstance (by exact rfl) T.b_tuple (by exact rfl) (do_val (dx_ix ix_seq pv_ix (do_val (dx_var (i := 0) (by exact rfl) (by exact Or.inr (Or.inl rfl)) (by exact rfl))) (do_val dx_int) (fun _ _ => rfl))) (by exact rfl)))) (dw_or1 (dt_cmp (op_gtD (hu64 hr)) pv_cmp (do_val (dx_callB call_lenA pv_len (by exact rfl) T.b_len (by exact rfl) (da_cons (do_val (dx_ix ix_seq pv_ix (do_val (dx_var (i := 0) (by exact rfl) (by exact Or.inr (Or.inl rfl)) (by exact rfl))) (do_val dx_int) (fun _ _ => rfl))) da_nil))) (do_val (dx_gI (by exact rfl) T.c_DOORS)) (nomark _))))) (dss_one (ds_ret dx_bl)) dss_nil) (dss_one (ds_ret (dx_and (dx_callB (cr_all (by exact rfl)) pv_all (by exact rfl) T.b_all (by exact rfl) (da_cons (do_val (dx_frz (dx_lc (own := [("door", 1)]) (T := (.nm 1)) (by exact rfl) sc.nd (di_of (by exact rfl) (dx_ix ix_seq pv_ix (do_val (dx_var (i := 0) (by exact rfl) (by exact Or.inr (Or.inl rfl)) (by exact rfl))) (do_val dx_int) (fun _ _ => rfl))) (blkOk_by (N := ["thing", "door"]) (sc := defScope s_is_house) (by decide +kernel)) (by decide) (all1 (by exact rfl)) (all1 (by exact rfl)) (fun O s H C cl fp => (dg_name sc.nd (i := 1) (by exact rfl) (by exact Or.inl rfl) (by exact rfl) (by exact rfl) (by first | exact Or.inl rfl | exact Or.inr rfl))) (fun O s H C cl fp => dts_nil) (fun O s H C cl fp => (dx_kn none (Γc := Γ_is_door) k_is_door (by exact rfl) takes0 hr (by decide) (by exact rfl) (by exact rfl) (fun q e => nomatch e) (da_cons (do_val (dx_ix ix_seq pv_ix (do_val (dx_var (i := 0) (by exact rfl) (by first | exact Or.inr (Or.inl rfl) | exact Or.inr (Or.inr rfl)) (by exact rfl))) (do_val dx_int) (fun _ _ => rfl))) (da_cons (do_val (dx_var (i := 1) (by exact rfl) (by exact Or.inl rfl) (by exact rfl))) da_nil))))))) da_nil)) (dx_one (dx_kn none (Γc := Γ_is_rising) k_is_rising (by exact rfl) (takes_of (by exact rfl) (by exact rfl) (by exact rfl) (by exact rfl)) hr (by decide) (by exact rfl) (by exact rfl) (fun q e => nomatch e) (da_cons (do_val (dx_ix ix_seq pv_ix (do_val (dx_var (i := 0) (by exact rfl) (by exact Or.inr (Or.inl rfl)) (by exact rfl))) (do_val dx_int) (fun _ _ => rfl))) da_nil))))))))⟩
abbrev K_need_house (P : Program) (w : World) (K : PySem.W.Frag) (mg : Str → Option Value) (base : Heap) (A : Nat → Addr) : Prop := Kn P w K mg base "need_house" 4 ["thing"] Γ_need_house (cls A) none 1 .fz m_need_house
theorem sc_need_house : FnScope ["thing"] ["thing"] (defScope s_need_house) := ⟨rfl, rfl, rfl, by decide +kernel, rfl, by decide +kernel, by decide +kernel⟩
theorem ok_need_house (T : Txt K mg A CW) (k_is_house : K_is_house P w K mg base A) : K_need_house P w K mg base A := by
  obtain ⟨f, fd, Fn, g, b⟩ := T.f_need_house
  have sc := sc_need_house
  exact ⟨f, g, Fn.kp, fd, b, fn_ok (N := ["thing"]) (lev := 3) (n := 1) (k := 0) Fn sc rfl rfl fun cdv A outer s H E O vs hr =>
    (dss_one (ds_if (dt_not (dt_val (dx_kn none (Γc := Γ_is_house) k_is_house (by exact rfl) (takes_of (by exact rfl) (by exact rfl) (by exact rfl) (by exact rfl)) hr (by decide) (by exact rfl) (by exact rfl) (fun q e => nomatch e) (da_cons (do_val (dx_var (i := 0) (by exact rfl) (by exact Or.inl rfl) (by exact rfl))) da_nil)))) (dss_one (ds_raise (by exact rfl) (takes_of (by exact rfl) (by exact rfl) (by exact rfl) (by exact rfl)) (by exact rfl) (pmk_own PySem.F.excBase_ValueError (T.xc 0) T.g_NoHouse (T.kc 0) (raises_own (T.sb 0) (T.ty 0)) (by exact rfl)))) dss_nil))⟩
abbrev K_all_spots (P : Program) (w : World) (K : PySem.W.Frag) (mg : Str → Option Value) (base : Heap) (A : Nat → Addr) : Prop := Kn P w K mg base "all_spots" 1 ["house"] Γ_all_spots (cls A) none 1 .fz m_all_spots
theorem sc_all_spots : FnScope ["house", "door", "room"] ["house"] (defScope s_all_spots) := ⟨rfl, rfl, rfl, by decide +kernel, rfl, by decide +kernel, by decide +kernel⟩
theorem ok_all_spots (T : Txt K mg A CW) : K_all_spots P w K mg base A := by
  obtain ⟨f, fd, Fn, g, b⟩ := T.f_all_spots
  have sc := sc_all_spots
  exact ⟨f, g, Fn.kp, fd, b, fn_ok (N := ["house", "door", "room"]) (lev := 0) (n := 1) (k := 2) Fn sc rfl rfl fun cdv A outer s H E O vs hr =>
    (dss_one (ds_ret (dx_bin op_addA pv_add (do_val (dx_frz (dx_lc (own := [("door", 1)]) (T := (.nm 1)) (by exact rfl) sc.nd (di_of (by exact rfl) (dx_ix ix_seq pv_ix (do_val (dx_var (i := 0) (by exact rfl) (by exact Or.inl rfl) (by exact rfl))) (do_val dx_int) (fun _ _ => rfl))) (blkOk_by (N := ["house", "door", "room"]) (sc := defScope s_all_spots) (by decide +kernel)) (by decide) (all1 (by exact rfl)) (all1 (by exact rfl)) (fun O s H C cl fp => (dg_name sc.nd (i := 1) (by exact rfl) (by exact Or.inl rfl) (by exact rfl) (by exact rfl) (by first | exact Or.inl rfl | exact Or.inr rfl))) (fun O s H C cl fp => dts_nil) (fun O s H C cl fp => (dx_bin op_addA pv_add (do_val (dx_tup (da_cons (do_val (dx_str (z := "door"))) da_nil))) (do_val (dx_var (i := 1) (by exact rfl) (by exact Or.inl rfl) (by exact rfl)))))))) (do_val (dx_frz (dx_lc (own := [("room", 2)]) (T := (.nm 2)) (by exact rfl) sc.nd (di_range2 (by exact rfl) T.b_range dx_int (dx_ix ix_seq pv_ix (do_val (dx_var (i := 0) (by exact rfl) (by exact Or.inl rfl) (by exact rfl))) (do_val dx_int) (fun _ _ => rfl))) (blkOk_by (N := ["house", "door", "room"]) (sc := defScope s_all_spots) (by decide +kernel)) (by decide) (all1 (by exact rfl)) (all1 (by exact rfl)) (fun O s H C cl fp => (dg_name sc.nd (i := 2) (by exact rfl) (by exact Or.inl rfl) (by exact rfl) (by exact rfl) (by first | exact Or.inl rfl | exact Or.inr rfl))) (fun O s H C cl fp => dts_nil) (fun O s H C cl fp => (dx_tup (da_cons (do_val (dx_str (z := "room"))) (da_cons (do_val (dx_var (i := 2) (by exact rfl) (by exact Or.inl rfl) (by exact rfl))) da_nil))))))))))⟩
abbrev K_is_spot (P : Program) (w : World) (K : PySem.W.Frag) (mg : Str → Option Value) (base : Heap) (A : Nat → Addr) : Prop := Kn P w K mg base "is_spot" 2 ["house", "thing"] Γ_is_spot (cls A) none 2 .fz m_is_spot
theorem sc_is_spot : FnScope ["house", "thing", "number"] ["house", "thing"] (defScope s_is_spot) := ⟨rfl, rfl, rfl, by decide +kernel, rfl, by decide +kernel, by decide +kernel⟩
theorem ok_is_spot (T : Txt K mg A CW) (k_is_whole : K_is_whole P w K mg base A) (k_all_spots : K_all_spots P w K mg base A) : K_is_spot P w K mg base A := by
  obtain ⟨f, fd, Fn, g, b⟩ := T.f_is_spot
  have sc := sc_is_spot
  exact ⟨f, g, Fn.kp, fd, b, fn_ok (N := ["house", "thing", "number"]) (lev := 1) (n := 2) (k := 1) Fn sc rfl rfl fun cdv A outer s H E O vs hr =>
    (dss_cons (ds_if (dt_w (dw_or (dt_not (dt_val (dx_isi .tuple (by exact rfl) (by exact rfl) T.b_isinstance (by exact rfl) T.b_tuple (by exact rfl) (do_val (dx_var (i := 1) (by exact rfl) (by exact Or.inl rfl) (by exact rfl))) (by exact rfl)))) (dw_or (dt_cmp (op_eqD (hu64 hr)) pv_eq (do_val (dx_var (i := 1) (by exact rfl) (by exact Or.inl rfl) (by exact rfl))) (do_val (dx_tup da_nil)) (nomark _)) (dw_or1 (dt_not (dt_val (dx_isi .str (by exact rfl) (by exact rfl) T.b_isinstance (by exact rfl) T.b_str (by exact rfl) (do_val (dx_ix ix_seq pv_ix (do_val (dx_var (i := 1) (by exact rfl) (by exact Or.inl rfl) (by exact rfl))) (do_val dx_int) (fun _ _ => rfl))) (by exact rfl)))))))) (dss_one (ds_ret dx_bl)) dss_nil) (dss_cons (ds_if (dt_not (dt_val (dx_callB (cr_all (by exact rfl)) pv_all (by exact rfl) T.b_all (by exact rfl) (da_cons (do_val (dx_frz (dx_lc (own := [("number", 2)]) (T := (.nm 2)) (by exact rfl) sc.nd (di_of (by exact rfl) (dx_sl sl_all pv_sl (do_val (dx_var (i := 1) (by exact rfl) (by exact Or.inl rfl) (by exact rfl))) (dp_some dx_int) dp_none)) (blkOk_by (N := ["house", "thing", "number"]) (sc := defScope s_is_spot) (by decide +kernel)) (by decide) (all1 (by exact rfl)) (all1 (by exact rfl)) (fun O s H C cl fp => (dg_name sc.nd (i := 2) (by exact rfl) (by exact Or.inl rfl) (by exact rfl) (by exact rfl) (by first | exact Or.inl rfl | exact Or.inr rfl))) (fun O s H C cl fp => dts_nil) (fun O s H C cl fp => (dx_kn none (Γc := Γ_is_whole) k_is_whole (by exact rfl) takes0 hr (by decide) (by exact rfl) (by exact rfl) (fun q e => nomatch e) (da_cons (do_val (dx_var (i := 2) (by exact rfl) (by exact Or.inl rfl) (by exact rfl))) (da_cons (do_val dx_int) (da_cons (do_val (dx_ix ix_seq pv_ix (do_val (dx_var (i := 0) (by exact rfl) (by first | exact Or.inr (Or.inl rfl) | exact Or.inr (Or.inr rfl)) (by exact rfl))) (do_val dx_int) (fun _ _ => rfl))) da_nil)))))))) da_nil)))) (dss_one (ds_ret dx_bl)) dss_nil) (dss_one (ds_ret (dx_cmp (op_inA (hu65 hr)) pv_in (do_val (dx_var (i := 1) (by exact rfl) (by exact Or.inl rfl) (by exact rfl))) (do_val (dx_kn none (Γc := Γ_all_spots) k_all_spots (by exact rfl) (takes_of (by exact rfl) (by exact rfl) (by exact rfl) (by exact rfl)) hr (by decide) (by exact rfl) (by exact rfl) (fun q e => nomatch e) (da_cons (do_val (dx_var (i := 0) (by exact rfl) (by exact Or.inr (Or.inl rfl)) (by exact rfl))) da_nil))) (by with_unfolding_all rfl))))))⟩
abbrev K_is_watcher (P : Program) (w : World) (K : PySem.W.Frag) (mg : Str → Option Value) (base : Heap) (A : Nat → Addr) : Prop := Kn P w K mg base "is_watcher" 3 ["house", "thing"] Γ_is_watcher (cls A) none 2 .fz m_is_watcher
theorem sc_is_watcher : FnScope ["house", "thing", "sign"] ["house", "thing"] (defScope s_is_watcher) := ⟨rfl, rfl, rfl, by decide +kernel, rfl, by decide +kernel, by decide +kernel⟩
theorem ok_is_watcher (T : Txt K mg A CW) (k_is_spot : K_is_spot P w K mg base A) : K_is_watcher P w K mg base A := by
  obtain ⟨f, fd, Fn, g, b⟩ := T.f_is_watcher
  have sc := sc_is_watcher
  exact ⟨f, g, Fn.kp, fd, b, fn_ok (N := ["house", "thing", "sign"]) (lev := 2) (n := 2) (k := 1) Fn sc rfl rfl fun cdv A outer s H E O vs hr =>
    (dss_cons (ds_if (dt_w (dw_or (dt_not (dt_val (dx_isi .tuple (by exact rfl) (by exact rfl) T.b_isinstance (by exact rfl) T.b_tuple (by exact rfl) (do_val (dx_var (i := 1) (by exact rfl) (by exact Or.inl rfl) (by exact rfl))) (by exact rfl)))) (dw_or (dt_cmp (op_neD (hu64 hr)) pv_ne (do_val (dx_callB call_lenA pv_len (by exact rfl) T.b_len (by exact rfl) (da_cons (do_val (dx_var (i := 1) (by exact rfl) (by exact Or.inl rfl) (by exact rfl))) da_nil))) (do_val dx_int) (nomark _)) (dw_or1 (dt_not (dt_val (dx_kn none (Γc := Γ_is_spot) k_is_spot (by exact rfl) (takes_of (by exact rfl) (by exact rfl) (by exact rfl) (by exact rfl)) hr (by decide) (by exact rfl) (by exact rfl) (fun q e => nomatch e) (da_cons (do_val (dx_var (i := 0) (by exact rfl) (by exact Or.inl rfl) (by exact rfl))) (da_cons (do_val (dx_ix ix_seq pv_ix (do_val (dx_var (i := 1) (by exact rfl) (by exact Or.inl rfl) (by exact rfl))) (do_val dx_int) (fun _ _ => rfl))) da_nil))))))))) (dss_one (ds_ret dx_bl)) dss_nil) (dss_one (ds_ret (dx_and (dx_isi .str (by exact rfl) (by exact rfl) T.b_isinstance (by exact rfl) T.b_str (by exact rfl) (do_val (dx_ix ix_seq pv_ix (do_val (dx_var (i := 1) (by exact rfl) (by exact Or.inl rfl) (by exact rfl))) (do_val dx_int) (fun _ _ => rfl))) (by exact rfl)) (dx_and (dx_chain (op_leD (hu64 hr)) (op_leD (hu64 hr)) pv_cmp pv_cmp (do_val dx_int) (do_val (dx_callB call_lenA pv_len (by exact rfl) T.b_len (by exact rfl) (da_cons (do_val (dx_ix ix_seq pv_ix (do_val (dx_var (i := 1) (by exact rfl) (by exact Or.inl rfl) (by exact rfl))) (do_val dx_int) (fun _ _ => rfl))) da_nil))) (do_val (dx_gI (by exact rfl) T.c_BEATS)) (by with_unfolding_all rfl)) (dx_one (dx_callB (cr_all (by exact rfl)) pv_all (by exact rfl) T.b_all (by exact rfl) (da_cons (do_val (dx_frz (dx_lc (own := [("sign", 2)]) (T := (.nm 2)) (by exact rfl) sc.nd (di_of (by exact rfl) (dx_ix ix_seq pv_ix (do_val (dx_var (i := 1) (by exact rfl) (by exact Or.inl rfl) (by exact rfl))) (do_val dx_int) (fun _ _ => rfl))) (blkOk_by (N := ["house", "thing", "sign"]) (sc := defScope s_is_watcher) (by decide +kernel)) (by decide) (all1 (by exact rfl)) (all1 (by exact rfl)) (fun O s H C cl fp => (dg_name sc.nd (i := 2) (by exact rfl) (by exact Or.inl rfl) (by exact rfl) (by exact rfl) (by first | exact Or.inl rfl | exact Or.inr rfl))) (fun O s H C cl fp => dts_nil) (fun O s H C cl fp => (dx_cmp (op_inA (hu65 hr)) pv_in (do_val (dx_var (i := 2) (by exact rfl) (by exact Or.inl rfl) (by exact rfl))) (do_val (dx_str (z := "#."))) (by with_unfolding_all rfl)))))) da_nil))))))))⟩
abbrev K_are_watching (P : Program) (w : World) (K : PySem.W.Frag) (mg : Str → Option Value) (base : Heap) (A : Nat → Addr) : Prop := Kn P w K mg base "are_watching" 4 ["house", "thing"] Γ_are_watching (cls A) none 2 .fz m_are_watching
theorem sc_are_watching : FnScope ["house", "thing", "one"] ["house", "thing"] (defScope s_are_watching) := ⟨rfl, rfl, rfl, by decide +kernel, rfl, by decide +kernel, by decide +kernel⟩
theorem ok_are_watching (T : Txt K mg A CW) (k_is_watcher : K_is_watcher P w K mg base A) (k_is_rising : K_is_rising P w K mg base A) : K_are_watching P w K mg base A := by
  obtain ⟨f, fd, Fn, g, b⟩ := T.f_are_watching
  have sc := sc_are_watching
  exact ⟨f, g, Fn.kp, fd, b, fn_ok (N := ["house", "thing", "one"]) (lev := 3) (n := 2) (k := 1) Fn sc rfl rfl fun cdv A outer s H E O vs hr =>
    (dss_cons (ds_if (dt_w (dw_or (dt_not (dt_val (dx_isi .tuple (by exact rfl) (by exact rfl) T.b_isinstance (by exact rfl) T.b_tuple (by exact rfl) (do_val (dx_var (i := 1) (by exact rfl) (by exact Or.inl rfl) (by exact rfl))) (by exact rfl)))) (dw_or (dt_cmp (op_gtD (hu64 hr)) pv_cmp (do_val (dx_callB call_lenA pv_len (by exact rfl) T.b_len (by exact rfl) (da_cons (do_val (dx_var (i := 1) (by exact rfl) (by exact Or.inl rfl) (by exact rfl))) da_nil))) (do_val (dx_gI (by exact rfl) T.c_WATCHERS)) (nomark _)) (dw_or1 (dt_not (dt_val (dx_callB (cr_all (by exact rfl)) pv_all (by exact rfl) T.b_all (by exact rfl) (da_cons (do_val (dx_frz (dx_lc (own := [("one", 2)]) (T := (.nm 2)) (by exact rfl) sc.nd (di_of (by exact rfl) (dx_var (i := 1) (by exact rfl) (by exact Or.inl rfl) (by exact rfl))) (blkOk_by (N := ["house", "thing", "one"]) (sc := defScope s_are_watching) (by decide +kernel)) (by decide) (all1 (by exact rfl)) (all1 (by exact rfl)) (fun O s H C cl fp => (dg_name sc.nd (i := 2) (by exact rfl) (by exact Or.inl rfl) (by exact rfl) (by exact rfl) (by first | exact Or.inl rfl | exact Or.inr rfl))) (fun O s H C cl fp => dts_nil) (fun O s H C cl fp => (dx_kn none (Γc := Γ_is_watcher) k_is_watcher (by exact rfl) takes0 hr (by decide) (by exact rfl) (by exact rfl) (fun q e => nomatch e) (da_cons (do_val (dx_var (i := 0) (by exact rfl) (by first | exact Or.inr (Or.inl rfl) | exact Or.inr (Or.inr rfl)) (by exact rfl))) (da_cons (do_val (dx_var (i := 2) (by exact rfl) (by exact Or.inl rfl) (by exact rfl))) da_nil))))))) da_nil)))))))) (dss_one (ds_ret dx_bl)) dss_nil) (dss_one (ds_ret (dx_kn none (Γc := Γ_is_rising) k_is_rising (by exact rfl) (takes_of (by exact rfl) (by exact rfl) (by exact rfl) (by exact rfl)) hr (by decide) (by exact rfl) (by exact rfl) (fun q e => nomatch e) (da_cons (do_val (dx_var (i := 1) (by exact rfl) (by exact Or.inl rfl) (by exact rfl))) da_nil)))))⟩
abbrev K_need_watchers (P : Program) (w : World) (K : PySem.W.Frag) (mg : Str → Option Value) (base : Heap) (A : Nat → Addr) : Prop := Kn P w K mg base "need_watchers" 5 ["house", "thing"] Γ_need_watchers (cls A) none 2 .fz m_need_watchers
theorem sc_need_watchers : FnScope ["house", "thing"] ["house", "thing"] (defScope s_need_watchers) := ⟨rfl, rfl, rfl, by decide +kernel, rfl, by decide +kernel, by decide +kernel⟩
theorem ok_need_watchers (T : Txt K mg A CW) (k_need_house : K_need_house P w K mg base A) (k_are_watching : K_are_watching P w K mg base A) : K_need_watchers P w K mg base A := by
  obtain ⟨f, fd, Fn, g, b⟩ := T.f_need_watchers
  have sc := sc_need_watchers
  exact ⟨f, g, Fn.kp, fd, b, fn_ok (N := ["house", "thing"]) (lev := 4) (n := 2) (k := 0) Fn sc rfl rfl fun cdv A outer s H E O vs hr =>
    (dss_cons (ds_expr (dx_kn none (Γc := Γ_need_house) k_need_house (by exact rfl) (takes_of (by exact rfl) (by exact rfl) (by exact rfl) (by exact rfl)) hr (by decide) (by exact rfl) (by exact rfl) (fun q e => nomatch e) (da_cons (do_val (dx_var (i := 0) (by exact rfl) (by exact Or.inl rfl) (by exact rfl))) da_nil))) (dss_one (ds_if (dt_not (dt_val (dx_kn none (Γc := Γ_are_watching) k_are_watching (by exact rfl) (takes_of (by exact rfl) (by exact rfl) (by exact rfl) (by exact rfl)) hr (by decide) (by exact rfl) (by exact rfl) (fun q e => nomatch e) (da_cons (do_val (dx_var (i := 0) (by exact rfl) (by exact Or.inl rfl) (by exact rfl))) (da_cons (do_val (dx_var (i := 1) (by exact rfl) (by exact Or.inl rfl) (by exact rfl))) da_nil))))) (dss_one (ds_raise (by exact rfl) (takes_of (by exact rfl) (by exact rfl) (by exact rfl) (by exact rfl)) (by exact rfl) (pmk_own PySem.F.excBase_ValueError (T.xc 1) T.g_NoWatchers (T.kc 1) (raises_own (T.sb 1) (T.ty 1)) (by exact rfl)))) dss_nil)))⟩
abbrev K_beside (P : Program) (w : World) (K : PySem.W.Frag) (mg : Str → Option Value) (base : Heap) (A : Nat → Addr) : Prop := Kn P w K mg base "beside" 1 ["house", "room"] Γ_beside (cls A) none 2 .fz m_beside
theorem sc_beside : FnScope ["house", "room", "made", "one", "other"] ["house", "room"] (defScope s_beside) := ⟨rfl, rfl, rfl, by decide +kernel, rfl, by decide +kernel, by decide +kernel⟩
theorem ok_beside (T : Txt K mg A CW) : K_beside P w K mg base A := by
  obtain ⟨f, fd, Fn, g, b⟩ := T.f_beside
  have sc := sc_beside
  exact ⟨f, g, Fn.kp, fd, b, fn_ok (N := ["house", "room", "made", "one", "other"]) (lev := 0) (n := 2) (k := 3) Fn sc rfl rfl fun cdv A outer s H E O vs hr =>
    (dss_cons (ds_set sc.nd (i := 2) (by exact rfl) (by exact Or.inl rfl) (by exact rfl) (by exact Or.inl rfl) (dx_bin op_addA pv_add (do_val (dx_frz (dx_lc (own := [("one", 3), ("other", 4)]) (T := (.tp [(.nm 3), (.nm 4)])) (by exact rfl) sc.nd (di_of (by exact rfl) (dx_ix ix_seq pv_ix (do_val (dx_var (i := 0) (by exact rfl) (by exact Or.inl rfl) (by exact rfl))) (do_val dx_int) (fun _ _ => rfl))) (blkOk_by (N := ["house", "room", "made", "one", "other"]) (sc := defScope s_beside) (by decide +kernel)) (by decide) (all2 (by exact rfl) (by exact rfl)) (all2 (by exact rfl) (by exact rfl)) (fun O s H C cl fp => (dg_tup (by exact rfl) (dgs_cons (dg_name sc.nd (i := 3) (by exact rfl) (by exact Or.inl rfl) (by exact rfl) (by exact rfl) (by first | exact Or.inl rfl | exact Or.inr rfl)) (dgs_cons (dg_name sc.nd (i := 4) (by exact rfl) (by exact Or.inl rfl) (by exact rfl) (by exact rfl) (by first | exact Or.inl rfl | exact Or.inr rfl)) dgs_nil)) (n := 2) (by exact rfl) (by exact rfl) (by exact rfl))) (fun O s H C cl fp => (dts_one (dt_cmp (op_eqD (hu64 hr)) pv_eq (do_val (dx_var (i := 3) (by exact rfl) (by exact Or.inl rfl) (by exact rfl))) (do_val (dx_var (i := 1) (by exact rfl) (by first | exact Or.inr (Or.inl rfl) | exact Or.inr (Or.inr rfl)) (by exact rfl))) (nomark _)))) (fun O s H C cl fp => (dx_var (i := 4) (by exact rfl) (by exact Or.inl rfl) (by exact rfl)))))) (do_val (dx_frz (dx_lc (own := [("one", 3), ("other", 4)]) (T := (.tp [(.nm 3), (.nm 4)])) (by exact rfl) sc.nd (di_of (by exact rfl) (dx_ix ix_seq pv_ix (do_val (dx_var (i := 0) (by exact rfl) (by exact Or.inl rfl) (by exact rfl))) (do_val dx_int) (fun _ _ => rfl))) (blkOk_by (N := ["house", "room", "made", "one", "other"]) (sc := defScope s_beside) (by decide +kernel)) (by decide) (all2 (by exact rfl) (by exact rfl)) (all2 (by exact rfl) (by exact rfl)) (fun O s H C cl fp => (dg_tup (by exact rfl) (dgs_cons (dg_name sc.nd (i := 3) (by exact rfl) (by exact Or.inl rfl) (by exact rfl) (by exact rfl) (by first | exact Or.inl rfl | exact Or.inr rfl)) (dgs_cons (dg_name sc.nd (i := 4) (by exact rfl) (by exact Or.inl rfl) (by exact rfl) (by exact rfl) (by first | exact Or.inl rfl | exact Or.inr rfl)) dgs_nil)) (n := 2) (by exact rfl) (by exact rfl) (by exact rfl))) (fun O s H C cl fp => (dts_one (dt_cmp (op_eqD (hu64 hr)) pv_eq (do_val (dx_var (i := 4) (by exact rfl) (by exact Or.inl rfl) (by exact rfl))) (do_val (dx_var (i := 1) (by exact rfl) (by first | exact Or.inr (Or.inl rfl) | exact Or.inr (Or.inr rfl)) (by exact rfl))) (nomark _)))) (fun O s H C cl fp => (dx_var (i := 3) (by exact rfl) (by exact Or.inl rfl) (by exact rfl)))))))) (dss_one (ds_ret (dx_frz (dx_callB (cr_sortD (hu70 hr)) pv_sort (by exact rfl) T.b_sorted (by exact rfl) (da_cons (do_val (dx_var (i := 2) (by exact rfl) (by exact Or.inl rfl) (by exact rfl))) da_nil))))))⟩
abbrev K_door_of (P : Program) (w : World) (K : PySem.W.Frag) (mg : Str → Option Value) (base : Heap) (A : Nat → Addr) : Prop := Kn P w K mg base "door_of" 1 ["one", "other"] Γ_door_of (cls A) none 2 .fz m_door_of
theorem sc_door_of : FnScope ["one", "other"] ["one", "other"] (defScope s_door_of) := ⟨rfl, rfl, rfl, by decide +kernel, rfl, by decide +kernel, by decide +kernel⟩
theorem ok_door_of (T : Txt K mg A CW) : K_door_of P w K mg base A := by
  obtain ⟨f, fd, Fn, g, b⟩ := T.f_door_of
  have sc := sc_door_of
  exact ⟨f, g, Fn.kp, fd, b, fn_ok (N := ["one", "other"]) (lev := 0) (n := 2) (k := 0) Fn sc rfl rfl fun cdv A outer s H E O vs hr =>
    (dss_one (ds_ret (dx_if (dt_cmp (op_neD (hu64 hr)) pv_ne (do_val (dx_var (i := 0) (by exact rfl) (by exact Or.inl rfl) (by exact rfl))) (do_val (dx_var (i := 1) (by exact rfl) (by exact Or.inl rfl) (by exact rfl))) (nomark _)) (dx_tup (da_cons (do_val (dx_str (z := "door"))) (da_cons (do_val (dx_callB (call_min2 (by exact rfl)) pv_min2 (by exact rfl) T.b_min (by exact rfl) (da_cons (do_val (dx_var (i := 0) (by exact rfl) (by exact Or.inl rfl) (by exact rfl))) (da_cons (do_val (dx_var (i := 1) (by exact rfl) (by exact Or.inl rfl) (by exact rfl))) da_nil)))) (da_cons (do_val (dx_callB (call_max2 (by exact rfl)) pv_max2 (by exact rfl) T.b_max (by exact rfl) (da_cons (do_val (dx_var (i := 0) (by exact rfl) (by exact Or.inl rfl) (by exact rfl))) (da_cons (do_val (dx_var (i := 1) (by exact rfl) (by exact Or.inl rfl) (by exact rfl))) da_nil)))) da_nil)))) dx_non)))⟩
abbrev K_sees (P : Program) (w : World) (K : PySem.W.Frag) (mg : Str → Option Value) (base : Heap) (A : Nat → Addr) : Prop := Kn P w K mg base "sees" 1 ["watcher", "spot", "beat"] Γ_sees (cls A) none 3 .fz m_sees
theorem sc_sees : FnScope ["watcher", "spot", "beat"] ["watcher", "spot", "beat"] (defScope s_sees) := ⟨rfl, rfl, rfl, by decide +kernel, rfl, by decide +kernel, by decide +kernel⟩
theorem ok_sees (T : Txt K mg A CW) : K_sees P w K mg base A := by
  obtain ⟨f, fd, Fn, g, b⟩ := T.f_sees
  have sc := sc_sees
  exact ⟨f, g, Fn.kp, fd, b, fn_ok (N := ["watcher", "spot", "beat"]) (lev := 0) (n := 3) (k := 0) Fn sc rfl rfl fun cdv A outer s H E O vs hr =>
    (dss_one (ds_ret (dx_and (dx_cmp (op_eqD (hu64 hr)) pv_eq (do_val (dx_ix ix_seq pv_ix (do_val (dx_var (i := 0) (by exact rfl) (by exact Or.inl rfl) (by exact rfl))) (do_val dx_int) (fun _ _ => rfl))) (do_val (dx_var (i := 1) (by exact rfl) (by exact Or.inl rfl) (by exact rfl))) (nomark _)) (dx_one (dx_cmp (op_eqD (hu64 hr)) pv_eq (do_val (dx_ix ix_seq pv_ix (do_val (dx_ix ix_seq pv_ix (do_val (dx_var (i := 0) (by exact rfl) (by exact Or.inl rfl) (by exact rfl))) (do_val dx_int) (fun _ _ => rfl))) (do_val (dx_bin op_mod pv_mod (do_val (dx_var (i := 2) (by exact rfl) (by exact Or.inl rfl) (by exact rfl))) (do_val (dx_callB call_lenA pv_len (by exact rfl) T.b_len (by exact rfl) (da_cons (do_val (dx_ix ix_seq pv_ix (do_val (dx_var (i := 0) (by exact rfl) (by exact Or.inl rfl) (by exact rfl))) (do_val dx_int) (fun _ _ => rfl))) da_nil))))) (fun _ _ => rfl))) (do_val (dx_str (z := "#"))) (nomark _))))))⟩
abbrev K_seers (P : Program) (w : World) (K : PySem.W.Frag) (mg : Str → Option Value) (base : Heap) (A : Nat → Addr) : Prop := Kn P w K mg base "seers" 2 ["watchers", "some", "beat"] Γ_seers (cls A) none 3 .fz m_seers
theorem sc_seers : FnScope ["watchers", "some", "beat", "number", "one", "spot"] ["watchers", "some", "beat"] (defScope s_seers) := ⟨rfl, rfl, rfl, by decide +kernel, rfl, by decide +kernel, by decide +kernel⟩
theorem ok_seers (T : Txt K mg A CW) (k_sees : K_sees P w K mg base A) : K_seers P w K mg base A := by
  obtain ⟨f, fd, Fn, g, b⟩ := T.f_seers
  have sc := sc_seers
  exact ⟨f, g, Fn.kp, fd, b, fn_ok (N := ["watchers", "some", "beat", "number", "one", "spot"]) (lev := 1) (n := 3) (k := 3) Fn sc rfl rfl fun cdv A outer s H E O vs hr =>
    (dss_one (ds_ret (dx_frz (dx_lc (own := [("number", 3), ("one", 4)]) (T := (.tp [(.nm 3), (.nm 4)])) (by exact rfl) sc.nd (di_enum (by exact rfl) (by exact rfl) T.b_enumerate (dx_var (i := 0) (by exact rfl) (by exact Or.inl rfl) (by exact rfl))) (blkOk_by (N := ["watchers", "some", "beat", "number", "one", "spot"]) (sc := defScope s_seers) (by decide +kernel)) (by decide) (all2 (by exact rfl) (by exact rfl)) (all2 (by exact rfl) (by exact rfl)) (fun O s H C cl fp => (dg_tup (by exact rfl) (dgs_cons (dg_name sc.nd (i := 3) (by exact rfl) (by exact Or.inl rfl) (by exact rfl) (by exact rfl) (by first | exact Or.inl rfl | exact Or.inr rfl)) (dgs_cons (dg_name sc.nd (i := 4) (by exact rfl) (by exact Or.inr rfl) (by exact rfl) (by exact rfl) (by first | exact Or.inl rfl | exact Or.inr rfl)) dgs_nil)) (n := 2) (by exact rfl) (by exact rfl) (by exact rfl))) (fun O s H C cl fp => (dts_one (dt_val (dx_callB (cr_any (by exact rfl)) pv_any (by exact rfl) T.b_any (by exact rfl) (da_cons (do_val (dx_frz (dx_lc (own := [("spot", 5)]) (T := (.nm 5)) (by exact rfl) sc.nd (di_of (by exact rfl) (dx_var (i := 1) (by exact rfl) (by first | exact Or.inr (Or.inl rfl) | exact Or.inr (Or.inr rfl)) (by exact rfl))) (blkOk_by (by exact rfl)) (by decide) (all1 (by exact rfl)) (all1 (by exact rfl)) (fun O s H C cl fp => (dg_name sc.nd (i := 5) (by exact rfl) (by exact Or.inl rfl) (by exact rfl) (by exact rfl) (by first | exact Or.inl rfl | exact Or.inr rfl))) (fun O s H C cl fp => dts_nil) (fun O s H C cl fp => (dx_kn none (Γc := Γ_sees) k_sees (by exact rfl) takes0 hr (by decide) (by exact rfl) (by exact rfl) (fun q e => nomatch e) (da_cons (do_val (dx_var (i := 4) (by exact rfl) (by first | exact Or.inr (Or.inl rfl) | exact Or.inr (Or.inr rfl)) (by exact rfl))) (da_cons (do_val (dx_var (i := 5) (by exact rfl) (by exact Or.inl rfl) (by exact rfl))) (da_cons (do_val (dx_var (i := 2) (by exact rfl) (by first | exact Or.inr (Or.inl rfl) | exact Or.inr (Or.inr rfl)) (by exact rfl))) da_nil)))))))) da_nil))))) (fun O s H C cl fp => (dx_var (i := 3) (by exact rfl) (by exact Or.inl rfl) (by exact rfl)))))))⟩
abbrev K_next_rows (P : Program) (w : World) (K : PySem.W.Frag) (mg : Str → Option Value) (base : Heap) (A : Nat → Addr) : Prop := Kn P w K mg base "next_rows" 3 ["house", "blind", "keen", "rows", "beat"] Γ_next_rows (cls A) none 5 .fz m_next_rows
theorem sc_next_rows : FnScope ["house", "blind", "keen", "rows", "beat", "later", "way", "was_seen", "other", "door", "room", "now_seen"] ["house", "blind", "keen", "rows", "beat"] (defScope s_next_rows) := ⟨rfl, rfl, rfl, by decide +kernel, rfl, by decide +kernel, by decide +kernel⟩
theorem ok_next_rows (T : Txt K mg A CW) (k_beside : K_beside P w K mg base A) (k_door_of : K_door_of P w K mg base A) (k_seers : K_seers P w K mg base A) : K_next_rows P w K mg base A := by
  obtain ⟨f, fd, Fn, g, b⟩ := T.f_next_rows
  have sc := sc_next_rows
  exact ⟨f, g, Fn.kp, fd, b, fn_ok (N := ["house", "blind", "keen", "rows", "beat", "later", "way", "was_seen", "other", "door", "room", "now_seen"]) (lev := 2) (n := 5) (k := 7) Fn sc rfl rfl fun cdv A outer s H E O vs hr =>
    (dss_cons (ds_set sc.nd (i := 5) (by exact rfl) (by exact Or.inl rfl) (by exact rfl) (by exact Or.inl rfl) dx_dict0) (dss_cons (ds_for (passes_of (by exact rfl)) (by exact rfl) (di_of (by exact rfl) (dx_var (i := 3) (by exact rfl) (by exact Or.inl rfl) (by exact rfl))) (dg_tup (by exact rfl) (dgs_cons (dg_name sc.nd (i := 6) (by exact rfl) (by exact Or.inl rfl) (by exact rfl) (by exact rfl) (by first | exact Or.inl rfl | exact Or.inr rfl)) (dgs_cons (dg_name sc.nd (i := 7) (by exact rfl) (by exact Or.inl rfl) (by exact rfl) (by exact rfl) (by first | exact Or.inl rfl | exact Or.inr rfl)) dgs_nil)) (n := 2) (by exact rfl) (by exact rfl) (by exact rfl)) (dss_one (ds_for (passes_of (by exact rfl)) (by exact rfl) (di_of (by exact rfl) (dx_frz (dx_callB (cr_sortD (hu70 hr)) pv_sort (by exact rfl) T.b_sorted (by exact rfl) (da_cons (do_val (dx_bin op_addA pv_add (do_val (dx_kn none (Γc := Γ_beside) k_beside (by exact rfl) (takes_of (by exact rfl) (by exact rfl) (by exact rfl) (by exact rfl)) hr (by decide) (by exact rfl) (by exact rfl) (fun q e => nomatch e) (da_cons (do_val (dx_var (i := 0) (by exact rfl) (by exact Or.inl rfl) (by exact rfl))) (da_cons (do_val (dx_ix ix_seq pv_ix (do_val (dx_var (i := 6) (by exact rfl) (by exact Or.inl rfl) (by exact rfl))) (do_val (dx_un un_neg pv_neg (do_val dx_int))) (fun _ _ => rfl))) da_nil)))) (do_val (dx_frz (dx_lst (da_cons (do_val (dx_ix ix_seq pv_ix (do_val (dx_var (i := 6) (by exact rfl) (by exact Or.inl rfl) (by exact rfl))) (do_val (dx_un un_neg pv_neg (do_val dx_int))) (fun _ _ => rfl))) da_nil)))))) da_nil)))) (dg_name sc.nd (i := 8) (by exact rfl) (by exact Or.inl rfl) (by exact rfl) (by exact rfl) (by first | exact Or.inl rfl | exact Or.inr rfl)) (dss_cons (ds_par (i := 9) (j := 10) (by exact rfl) sc.nd (by exact rfl) (by exact rfl) (by decide) (by exact rfl) (by exact rfl) (by exact rfl) (by exact rfl) (by exact rfl) (by exact rfl) (da_cons (do_val (dx_frz (dx_lst (da_cons (do_val (dx_kn none (Γc := Γ_door_of) k_door_of (by exact rfl) (takes_of (by exact rfl) (by exact rfl) (by exact rfl) (by exact rfl)) hr (by decide) (by exact rfl) (by exact rfl) (fun q e => nomatch e) (da_cons (do_val (dx_ix ix_seq pv_ix (do_val (dx_var (i := 6) (by exact rfl) (by exact Or.inl rfl) (by exact rfl))) (do_val (dx_un un_neg pv_neg (do_val dx_int))) (fun _ _ => rfl))) (da_cons (do_val (dx_var (i := 8) (by exact rfl) (by exact Or.inl rfl) (by exact rfl))) da_nil)))) da_nil)))) (da_cons (do_val (dx_frz (dx_lst (da_cons (do_val (dx_tup (da_cons (do_val (dx_str (z := "room"))) (da_cons (do_val (dx_var (i := 8) (by exact rfl) (by exact Or.inl rfl) (by exact rfl))) da_nil)))) da_nil)))) da_nil)) (by exact rfl) (by exact rfl)) (dss_one (ds_if (dt_w (dw_and (dt_cmp (op_eqD (hu64 hr)) pv_eq (do_val (dx_kn none (Γc := Γ_seers) k_seers (by exact rfl) (takes_of (by exact rfl) (by exact rfl) (by exact rfl) (by exact rfl)) hr (by decide) (by exact rfl) (by exact rfl) (fun q e => nomatch e) (da_cons (do_val (dx_var (i := 1) (by exact rfl) (by exact Or.inl rfl) (by exact rfl))) (da_cons (do_val (dx_var (i := 9) (by exact rfl) (by exact Or.inl rfl) (by exact rfl))) (da_cons (do_val (dx_var (i := 4) (by exact rfl) (by exact Or.inl rfl) (by exact rfl))) da_nil))))) (do_val (dx_frz (dx_lst da_nil))) (nomark _)) (dw_and1 (dt_cmp (op_eqD (hu64 hr)) pv_eq (do_val (dx_kn none (Γc := Γ_seers) k_seers (by exact rfl) (takes_of (by exact rfl) (by exact rfl) (by exact rfl) (by exact rfl)) hr (by decide) (by exact rfl) (by exact rfl) (fun q e => nomatch e) (da_cons (do_val (dx_var (i := 1) (by exact rfl) (by exact Or.inl rfl) (by exact rfl))) (da_cons (do_val (dx_var (i := 10) (by exact rfl) (by exact Or.inl rfl) (by exact rfl))) (da_cons (do_val (dx_bin op_addA pv_add (do_val (dx_var (i := 4) (by exact rfl) (by exact Or.inl rfl) (by exact rfl))) (do_val dx_int))) da_nil))))) (do_val (dx_frz (dx_lst da_nil))) (nomark _))))) (dss_cons (ds_set sc.nd (i := 11) (by exact rfl) (by exact Or.inl rfl) (by exact rfl) (by exact Or.inl rfl) (dx_or (dx_var (i := 7) (by exact rfl) (by exact Or.inl rfl) (by exact rfl)) (dx_or (dx_cmp (op_neD (hu64 hr)) pv_ne (do_val (dx_kn none (Γc := Γ_seers) k_seers (by exact rfl) (takes_of (by exact rfl) (by exact rfl) (by exact rfl) (by exact rfl)) hr (by decide) (by exact rfl) (by exact rfl) (fun q e => nomatch e) (da_cons (do_val (dx_var (i := 2) (by exact rfl) (by exact Or.inl rfl) (by exact rfl))) (da_cons (do_val (dx_var (i := 9) (by exact rfl) (by exact Or.inl rfl) (by exact rfl))) (da_cons (do_val (dx_var (i := 4) (by exact rfl) (by exact Or.inl rfl) (by exact rfl))) da_nil))))) (do_val (dx_frz (dx_lst da_nil))) (nomark _)) (dx_one (dx_cmp (op_neD (hu64 hr)) pv_ne (do_val (dx_kn none (Γc := Γ_seers) k_seers (by exact rfl) (takes_of (by exact rfl) (by exact rfl) (by exact rfl) (by exact rfl)) hr (by decide) (by exact rfl) (by exact rfl) (fun q e => nomatch e) (da_cons (do_val (dx_var (i := 2) (by exact rfl) (by exact Or.inl rfl) (by exact rfl))) (da_cons (do_val (dx_var (i := 10) (by exact rfl) (by exact Or.inl rfl) (by exact rfl))) (da_cons (do_val (dx_bin op_addA pv_add (do_val (dx_var (i := 4) (by exact rfl) (by exact Or.inl rfl) (by exact rfl))) (do_val dx_int))) da_nil))))) (do_val (dx_frz (dx_lst da_nil))) (nomark _)))))) (dss_one (ds_expr (dx_nsetd (j := 5) (by exact rfl) (hu64 hr) (by exact rfl) (by exact rfl) (by exact Or.inl rfl) (dx_tup (da_cons (do_val (dx_var (i := 8) (by exact rfl) (by exact Or.inl rfl) (by exact rfl))) (da_cons (do_val (dx_var (i := 11) (by exact rfl) (by exact Or.inl rfl) (by exact rfl))) da_nil))) (dx_tup (da_cons (do_val (dx_bin op_addA pv_add (do_val (dx_var (i := 6) (by exact rfl) (by exact Or.inl rfl) (by exact rfl))) (do_val (dx_tup (da_cons (do_val (dx_var (i := 8) (by exact rfl) (by exact Or.inl rfl) (by exact rfl))) da_nil))))) (da_cons (do_val (dx_var (i := 11) (by exact rfl) (by exact Or.inl rfl) (by exact rfl))) da_nil))) ⟨rfl, rfl, rfl, rfl⟩)))) dss_nil)))))) (dss_one (ds_ret (dx_frz (dx_listV (by exact rfl) (by exact rfl) (by exact rfl) T.b_list (by exact rfl) (do_slot (i := 5) (by exact rfl) (by exact Or.inl rfl) (by exact rfl))))))))⟩
abbrev K_seen_by_one (P : Program) (w : World) (K : PySem.W.Frag) (mg : Str → Option Value) (base : Heap) (A : Nat → Addr) : Prop := Kn P w K mg base "seen_by_one" 4 ["house", "keen", "blind"] Γ_seen_by_one (cls A) none 3 .fz m_seen_by_one
theorem sc_seen_by_one : FnScope ["house", "keen", "blind", "rows", "beat", "found", "way", "was_seen"] ["house", "keen", "blind"] (defScope s_seen_by_one) := ⟨rfl, rfl, rfl, by decide +kernel, rfl, by decide +kernel, by decide +kernel⟩
theorem ok_seen_by_one (T : Txt K mg A CW) (k_next_rows : K_next_rows P w K mg base A) : K_seen_by_one P w K mg base A := by
  obtain ⟨f, fd, Fn, g, b⟩ := T.f_seen_by_one
  have sc := sc_seen_by_one
  exact ⟨f, g, Fn.kp, fd, b, fn_ok (N := ["house", "keen", "blind", "rows", "beat", "found", "way", "was_seen"]) (lev := 3) (n := 3) (k := 5) Fn sc rfl rfl fun cdv A outer s H E O vs hr =>
    (dss_cons (ds_set sc.nd (i := 3) (by exact rfl) (by exact Or.inl rfl) (by exact rfl) (by exact Or.inl rfl) (dx_frz (dx_lst (da_cons (do_val (dx_tup (da_cons (do_val (dx_tup (da_cons (do_val dx_int) da_nil))) (da_cons (do_val dx_bl) da_nil)))) da_nil)))) (dss_cons (ds_for (passes_of (by exact rfl)) (by exact rfl) (di_range1 (by exact rfl) T.b_range (dx_bin op_sub pv_sub (do_val (dx_gI (by exact rfl) T.c_MANY)) (do_val dx_int))) (dg_name sc.nd (i := 4) (by exact rfl) (by exact Or.inl rfl) (by exact rfl) (by exact rfl) (by first | exact Or.inl rfl | exact Or.inr rfl)) (dss_cons (ds_set sc.nd (i := 3) (by exact rfl) (by exact Or.inl rfl) (by exact rfl) (by exact Or.inl rfl) (dx_kn none (Γc := Γ_next_rows) k_next_rows (by exact rfl) (takes_of (by exact rfl) (by exact rfl) (by exact rfl) (by exact rfl)) hr (by decide) (by exact rfl) (by exact rfl) (fun q e => nomatch e) (da_cons (do_val (dx_var (i := 0) (by exact rfl) (by exact Or.inl rfl) (by exact rfl))) (da_cons (do_val (dx_var (i := 2) (by exact rfl) (by exact Or.inl rfl) (by exact rfl))) (da_cons (do_val (dx_var (i := 1) (by exact rfl) (by exact Or.inl rfl) (by exact rfl))) (da_cons (do_val (dx_var (i := 3) (by exact rfl) (by exact Or.inl rfl) (by exact rfl))) (da_cons (do_val (dx_var (i := 4) (by exact rfl) (by exact Or.inl rfl) (by exact rfl))) da_nil))))))) (dss_cons (ds_setLcF (own := [("way", 6), ("was_seen", 7)]) (T' := (.tp [(.nm 6), (.nm 7)])) (i := 5) (by exact rfl) sc.nd (by exact rfl) (by exact rfl) (by exact rfl) (by exact rfl) (sw_true (by exact rfl) (by exact rfl) (by exact rfl) (by decide +kernel)) (di_of (by exact rfl) (dx_var (i := 3) (by exact rfl) (by exact Or.inl rfl) (by exact rfl))) (blkOk_by (N := ["house", "keen", "blind", "rows", "beat", "found", "way", "was_seen"]) (sc := defScope s_seen_by_one) (by decide +kernel)) (by decide) (all2 (by exact rfl) (by exact rfl)) (all2 (by exact rfl) (by exact rfl)) (fun O s H C cl fp => (dg_tup (by exact rfl) (dgs_cons (dg_name sc.nd (i := 6) (by exact rfl) (by exact Or.inl rfl) (by exact rfl) (by exact rfl) (by first | exact Or.inl rfl | exact Or.inr rfl)) (dgs_cons (dg_name sc.nd (i := 7) (by exact rfl) (by exact Or.inl rfl) (by exact rfl) (by exact rfl) (by first | exact Or.inl rfl | exact Or.inr rfl)) dgs_nil)) (n := 2) (by exact rfl) (by exact rfl) (by exact rfl))) (fun O s H C cl fp => (dts_one (dt_val (dx_var (i := 7) (by exact rfl) (by exact Or.inl rfl) (by exact rfl))))) (fun O s H C cl fp => (dx_var (i := 6) (by exact rfl) (by exact Or.inl rfl) (by exact rfl)))) (dss_one (ds_if (dt_cmp (op_neD (hu64 hr)) pv_ne (do_val (dx_var (i := 5) (by exact rfl) (by exact Or.inl rfl) (by exact rfl))) (do_val (dx_frz (dx_lst da_nil))) (nomark _)) (dss_one (ds_ret (dx_callB (cr_minD (by exact rfl) (hu70 hr)) pv_minD (by exact rfl) T.b_min (by exact rfl) (da_cons (do_val (dx_var (i := 5) (by exact rfl) (by exact Or.inl rfl) (by exact rfl))) da_nil)))) dss_nil))))) (dss_one (ds_ret dx_non))))⟩
abbrev K_closer (P : Program) (w : World) (K : PySem.W.Frag) (mg : Str → Option Value) (base : Heap) (A : Nat → Addr) : Prop := Kn P w K mg base "closer" 6 ["house", "one", "other"] Γ_closer (cls A) none 3 .fz m_closer
theorem sc_closer : FnScope ["house", "one", "other"] ["house", "one", "other"] (defScope s_closer) := ⟨rfl, rfl, rfl, by decide +kernel, rfl, by decide +kernel, by decide +kernel⟩
theorem ok_closer (T : Txt K mg A CW) (k_need_watchers : K_need_watchers P w K mg base A) (k_seen_by_one : K_seen_by_one P w K mg base A) : K_closer P w K mg base A := by
  obtain ⟨f, fd, Fn, g, b⟩ := T.f_closer
  have sc := sc_closer
  exact ⟨f, g, Fn.kp, fd, b, fn_ok (N := ["house", "one", "other"]) (lev := 5) (n := 3) (k := 0) Fn sc rfl rfl fun cdv A outer s H E O vs hr =>
    (dss_cons (ds_expr (dx_kn none (Γc := Γ_need_watchers) k_need_watchers (by exact rfl) (takes_of (by exact rfl) (by exact rfl) (by exact rfl) (by exact rfl)) hr (by decide) (by exact rfl) (by exact rfl) (fun q e => nomatch e) (da_cons (do_val (dx_var (i := 0) (by exact rfl) (by exact Or.inl rfl) (by exact rfl))) (da_cons (do_val (dx_var (i := 1) (by exact rfl) (by exact Or.inl rfl) (by exact rfl))) da_nil)))) (dss_cons (ds_expr (dx_kn none (Γc := Γ_need_watchers) k_need_watchers (by exact rfl) (takes_of (by exact rfl) (by exact rfl) (by exact rfl) (by exact rfl)) hr (by decide) (by exact rfl) (by exact rfl) (fun q e => nomatch e) (da_cons (do_val (dx_var (i := 0) (by exact rfl) (by exact Or.inl rfl) (by exact rfl))) (da_cons (do_val (dx_var (i := 2) (by exact rfl) (by exact Or.inl rfl) (by exact rfl))) da_nil)))) (dss_one (ds_ret (dx_cmp op_isN pv_is (do_val (dx_kn none (Γc := Γ_seen_by_one) k_seen_by_one (by exact rfl) (takes_of (by exact rfl) (by exact rfl) (by exact rfl) (by exact rfl)) hr (by decide) (by exact rfl) (by exact rfl) (fun q e => nomatch e) (da_cons (do_val (dx_var (i := 0) (by exact rfl) (by exact Or.inl rfl) (by exact rfl))) (da_cons (do_val (dx_var (i := 2) (by exact rfl) (by exact Or.inl rfl) (by exact rfl))) (da_cons (do_val (dx_var (i := 1) (by exact rfl) (by exact Or.inl rfl) (by exact rfl))) da_nil))))) (do_val dx_non) (nomark _))))))⟩
abbrev K_spare (P : Program) (w : World) (K : PySem.W.Frag) (mg : Str → Option Value) (base : Heap) (A : Nat → Addr) : Prop := Kn P w K mg base "spare" 7 ["house", "watchers"] Γ_spare (cls A) none 2 .fz m_spare
theorem sc_spare : FnScope ["house", "watchers", "made", "number"] ["house", "watchers"] (defScope s_spare) := ⟨rfl, rfl, rfl, by decide +kernel, rfl, by decide +kernel, by decide +kernel⟩
theorem ok_spare (T : Txt K mg A CW) (k_need_watchers : K_need_watchers P w K mg base A) (k_closer : K_closer P w K mg base A) : K_spare P w K mg base A := by
  obtain ⟨f, fd, Fn, g, b⟩ := T.f_spare
  have sc := sc_spare
  exact ⟨f, g, Fn.kp, fd, b, fn_ok (N := ["house", "watchers", "made", "number"]) (lev := 6) (n := 2) (k := 2) Fn sc rfl rfl fun cdv A outer s H E O vs hr =>
    (dss_cons (ds_expr (dx_kn none (Γc := Γ_need_watchers) k_need_watchers (by exact rfl) (takes_of (by exact rfl) (by exact rfl) (by exact rfl) (by exact rfl)) hr (by decide) (by exact rfl) (by exact rfl) (fun q e => nomatch e) (da_cons (do_val (dx_var (i := 0) (by exact rfl) (by exact Or.inl rfl) (by exact rfl))) (da_cons (do_val (dx_var (i := 1) (by exact rfl) (by exact Or.inl rfl) (by exact rfl))) da_nil)))) (dss_cons (ds_set sc.nd (i := 2) (by exact rfl) (by exact Or.inl rfl) (by exact rfl) (by exact Or.inl rfl) (dx_lst da_nil)) (dss_cons (ds_for (passes_of (by exact rfl)) (by exact rfl) (di_range1 (by exact rfl) T.b_range (dx_callB call_lenA pv_len (by exact rfl) T.b_len (by exact rfl) (da_cons (do_val (dx_var (i := 1) (by exact rfl) (by exact Or.inl rfl) (by exact rfl))) da_nil))) (dg_name sc.nd (i := 3) (by exact rfl) (by exact Or.inl rfl) (by exact rfl) (by exact rfl) (by first | exact Or.inl rfl | exact Or.inr rfl)) (dss_one (ds_if (dt_val (dx_kn none (Γc := Γ_closer) k_closer (by exact rfl) (takes_of (by exact rfl) (by exact rfl) (by exact rfl) (by exact rfl)) hr (by decide) (by exact rfl) (by exact rfl) (fun q e => nomatch e) (da_cons (do_val (dx_var (i := 0) (by exact rfl) (by exact Or.inl rfl) (by exact rfl))) (da_cons (do_val (dx_bin op_addA pv_add (do_val (dx_sl sl_all pv_sl (do_val (dx_var (i := 1) (by exact rfl) (by exact Or.inl rfl) (by exact rfl))) dp_none (dp_some (dx_var (i := 3) (by exact rfl) (by exact Or.inl rfl) (by exact rfl))))) (do_val (dx_sl sl_all pv_sl (do_val (dx_var (i := 1) (by exact rfl) (by exact Or.inl rfl) (by exact rfl))) (dp_some (dx_bin op_addA pv_add (do_val (dx_var (i := 3) (by exact rfl) (by exact Or.inl rfl) (by exact rfl))) (do_val dx_int))) dp_none)))) (da_cons (do_val (dx_var (i := 1) (by exact rfl) (by exact Or.inl rfl) (by exact rfl))) da_nil))))) (dss_one (ds_expr (dx_mut (j := 2) (by exact rfl) (by exact rfl) (by exact Or.inl rfl) PySem.F.plainAttrs_list PySem.F.slot_list_append PySem.F.type_list_append mt_append pv_append (da_cons (do_val (dx_var (i := 3) (by exact rfl) (by exact Or.inl rfl) (by exact rfl))) da_nil) (by exact rfl) (by exact rfl) (by exact rfl) (by exact rfl) (by exact rfl)))) dss_nil))) (dss_one (ds_ret (dx_frz (dx_mov (i := 2) (by exact rfl) (by exact Or.inl rfl) (by exact rfl))))))))⟩
abbrev K_parted (P : Program) (w : World) (K : PySem.W.Frag) (mg : Str → Option Value) (base : Heap) (A : Nat → Addr) : Prop := Kn P w K mg base "parted" 6 ["house", "one", "other"] Γ_parted (cls A) none 3 .fz m_parted
theorem sc_parted : FnScope ["house", "one", "other", "found"] ["house", "one", "other"] (defScope s_parted) := ⟨rfl, rfl, rfl, by decide +kernel, rfl, by decide +kernel, by decide +kernel⟩
theorem ok_parted (T : Txt K mg A CW) (k_need_watchers : K_need_watchers P w K mg base A) (k_seen_by_one : K_seen_by_one P w K mg base A) : K_parted P w K mg base A := by
  obtain ⟨f, fd, Fn, g, b⟩ := T.f_parted
  have sc := sc_parted
  exact ⟨f, g, Fn.kp, fd, b, fn_ok (N := ["house", "one", "other", "found"]) (lev := 5) (n := 3) (k := 1) Fn sc rfl rfl fun cdv A outer s H E O vs hr =>
    (dss_cons (ds_expr (dx_kn none (Γc := Γ_need_watchers) k_need_watchers (by exact rfl) (takes_of (by exact rfl) (by exact rfl) (by exact rfl) (by exact rfl)) hr (by decide) (by exact rfl) (by exact rfl) (fun q e => nomatch e) (da_cons (do_val (dx_var (i := 0) (by exact rfl) (by exact Or.inl rfl) (by exact rfl))) (da_cons (do_val (dx_var (i := 1) (by exact rfl) (by exact Or.inl rfl) (by exact rfl))) da_nil)))) (dss_cons (ds_expr (dx_kn none (Γc := Γ_need_watchers) k_need_watchers (by exact rfl) (takes_of (by exact rfl) (by exact rfl) (by exact rfl) (by exact rfl)) hr (by decide) (by exact rfl) (by exact rfl) (fun q e => nomatch e) (da_cons (do_val (dx_var (i := 0) (by exact rfl) (by exact Or.inl rfl) (by exact rfl))) (da_cons (do_val (dx_var (i := 2) (by exact rfl) (by exact Or.inl rfl) (by exact rfl))) da_nil)))) (dss_cons (ds_set sc.nd (i := 3) (by exact rfl) (by exact Or.inl rfl) (by exact rfl) (by exact Or.inl rfl) (dx_kn none (Γc := Γ_seen_by_one) k_seen_by_one (by exact rfl) (takes_of (by exact rfl) (by exact rfl) (by exact rfl) (by exact rfl)) hr (by decide) (by exact rfl) (by exact rfl) (fun q e => nomatch e) (da_cons (do_val (dx_var (i := 0) (by exact rfl) (by exact Or.inl rfl) (by exact rfl))) (da_cons (do_val (dx_var (i := 1) (by exact rfl) (by exact Or.inl rfl) (by exact rfl))) (da_cons (do_val (dx_var (i := 2) (by exact rfl) (by exact Or.inl rfl) (by exact rfl))) da_nil))))) (dss_one (ds_ret (dx_if (dt_cmp op_notN pv_isnot (do_val (dx_var (i := 3) (by exact rfl) (by exact Or.inl rfl) (by exact rfl))) (do_val dx_non) (nomark _)) (dx_var (i := 3) (by exact rfl) (by exact Or.inl rfl) (by exact rfl)) (dx_kn none (Γc := Γ_seen_by_one) k_seen_by_one (by exact rfl) (takes_of (by exact rfl) (by exact rfl) (by exact rfl) (by exact rfl)) hr (by decide) (by exact rfl) (by exact rfl) (fun q e => nomatch e) (da_cons (do_val (dx_var (i := 0) (by exact rfl) (by exact Or.inl rfl) (by exact rfl))) (da_cons (do_val (dx_var (i := 2) (by exact rfl) (by exact Or.inl rfl) (by exact rfl))) (da_cons (do_val (dx_var (i := 1) (by exact rfl) (by exact Or.inl rfl) (by exact rfl))) da_nil))))))))))⟩
abbrev K_need_goal (P : Program) (w : World) (K : PySem.W.Frag) (mg : Str → Option Value) (base : Heap) (A : Nat → Addr) : Prop := Kn P w K mg base "need_goal" 2 ["house", "thing"] Γ_need_goal (cls A) none 2 .fz m_need_goal
theorem sc_need_goal : FnScope ["house", "thing"] ["house", "thing"] (defScope s_need_goal) := ⟨rfl, rfl, rfl, by decide +kernel, rfl, by decide +kernel, by decide +kernel⟩
theorem ok_need_goal (T : Txt K mg A CW) (k_is_whole : K_is_whole P w K mg base A) : K_need_goal P w K mg base A := by
  obtain ⟨f, fd, Fn, g, b⟩ := T.f_need_goal
  have sc := sc_need_goal
  exact ⟨f, g, Fn.kp, fd, b, fn_ok (N := ["house", "thing"]) (lev := 1) (n := 2) (k := 0) Fn sc rfl rfl fun cdv A outer s H E O vs hr =>
    (dss_one (ds_if (dt_not (dt_val (dx_kn none (Γc := Γ_is_whole) k_is_whole (by exact rfl) (takes_of (by exact rfl) (by exact rfl) (by exact rfl) (by exact rfl)) hr (by decide) (by exact rfl) (by exact rfl) (fun q e => nomatch e) (da_cons (do_val (dx_var (i := 1) (by exact rfl) (by exact Or.inl rfl) (by exact rfl))) (da_cons (do_val dx_int) (da_cons (do_val (dx_bin op_sub pv_sub (do_val (dx_ix ix_seq pv_ix (do_val (dx_var (i := 0) (by exact rfl) (by exact Or.inl rfl) (by exact rfl))) (do_val dx_int) (fun _ _ => rfl))) (do_val dx_int))) da_nil)))))) (dss_one (ds_raise (by exact rfl) (takes_of (by exact rfl) (by exact rfl) (by exact rfl) (by exact rfl)) (by exact rfl) (pmk_own PySem.F.excBase_ValueError (T.xc 2) T.g_NoGoal (T.kc 2) (raises_own (T.sb 2) (T.ty 2)) (by exact rfl)))) dss_nil))⟩
abbrev K_need_all (P : Program) (w : World) (K : PySem.W.Frag) (mg : Str → Option Value) (base : Heap) (A : Nat → Addr) : Prop := Kn P w K mg base "need_all" 6 ["house", "watchers", "goal", "many"] Γ_need_all (cls A) none 4 .fz m_need_all
theorem sc_need_all : FnScope ["house", "watchers", "goal", "many"] ["house", "watchers", "goal", "many"] (defScope s_need_all) := ⟨rfl, rfl, rfl, by decide +kernel, rfl, by decide +kernel, by decide +kernel⟩
theorem ok_need_all (T : Txt K mg A CW) (k_need_watchers : K_need_watchers P w K mg base A) (k_need_goal : K_need_goal P w K mg base A) (k_is_whole : K_is_whole P w K mg base A) : K_need_all P w K mg base A := by
  obtain ⟨f, fd, Fn, g, b⟩ := T.f_need_all
  have sc := sc_need_all
  exact ⟨f, g, Fn.kp, fd, b, fn_ok (N := ["house", "watchers", "goal", "many"]) (lev := 5) (n := 4) (k := 0) Fn sc rfl rfl fun cdv A outer s H E O vs hr =>
    (dss_cons (ds_expr (dx_kn none (Γc := Γ_need_watchers) k_need_watchers (by exact rfl) (takes_of (by exact rfl) (by exact rfl) (by exact rfl) (by exact rfl)) hr (by decide) (by exact rfl) (by exact rfl) (fun q e => nomatch e) (da_cons (do_val (dx_var (i := 0) (by exact rfl) (by exact Or.inl rfl) (by exact rfl))) (da_cons (do_val (dx_var (i := 1) (by exact rfl) (by exact Or.inl rfl) (by exact rfl))) da_nil)))) (dss_cons (ds_expr (dx_kn none (Γc := Γ_need_goal) k_need_goal (by exact rfl) (takes_of (by exact rfl) (by exact rfl) (by exact rfl) (by exact rfl)) hr (by decide) (by exact rfl) (by exact rfl) (fun q e => nomatch e) (da_cons (do_val (dx_var (i := 0) (by exact rfl) (by exact Or.inl rfl) (by exact rfl))) (da_cons (do_val (dx_var (i := 2) (by exact rfl) (by exact Or.inl rfl) (by exact rfl))) da_nil)))) (dss_one (ds_if (dt_not (dt_val (dx_kn none (Γc := Γ_is_whole) k_is_whole (by exact rfl) (takes_of (by exact rfl) (by exact rfl) (by exact rfl) (by exact rfl)) hr (by decide) (by exact rfl) (by exact rfl) (fun q e => nomatch e) (da_cons (do_val (dx_var (i := 3) (by exact rfl) (by exact Or.inl rfl) (by exact rfl))) (da_cons (do_val dx_int) (da_cons (do_val (dx_gI (by exact rfl) T.c_MANY)) da_nil)))))) (dss_one (ds_raise (by exact rfl) (takes_of (by exact rfl) (by exact rfl) (by exact rfl) (by exact rfl)) (by exact rfl) (pmk_own PySem.F.excBase_ValueError (T.xc 4) T.g_NoCount (T.kc 4) (raises_own (T.sb 4) (T.ty 4)) (by exact rfl)))) dss_nil))))⟩
abbrev K_steps_from (P : Program) (w : World) (K : PySem.W.Frag) (mg : Str → Option Value) (base : Heap) (A : Nat → Addr) : Prop := Kn P w K mg base "steps_from" 3 ["house", "watchers", "room", "beat"] Γ_steps_from (cls A) none 4 .fz m_steps_from
theorem sc_steps_from : FnScope ["house", "watchers", "room", "beat", "made", "other"] ["house", "watchers", "room", "beat"] (defScope s_steps_from) := ⟨rfl, rfl, rfl, by decide +kernel, rfl, by decide +kernel, by decide +kernel⟩
theorem ok_steps_from (T : Txt K mg A CW) (k_beside : K_beside P w K mg base A) (k_seers : K_seers P w K mg base A) (k_door_of : K_door_of P w K mg base A) : K_steps_from P w K mg base A := by
  obtain ⟨f, fd, Fn, g, b⟩ := T.f_steps_from
  have sc := sc_steps_from
  exact ⟨f, g, Fn.kp, fd, b, fn_ok (N := ["house", "watchers", "room", "beat", "made", "other"]) (lev := 2) (n := 4) (k := 2) Fn sc rfl rfl fun cdv A outer s H E O vs hr =>
    (dss_cons (ds_set sc.nd (i := 4) (by exact rfl) (by exact Or.inl rfl) (by exact rfl) (by exact Or.inl rfl) (dx_lst da_nil)) (dss_cons (ds_for (passes_of (by exact rfl)) (by exact rfl) (di_of (by exact rfl) (dx_frz (dx_callB (cr_sortD (hu70 hr)) pv_sort (by exact rfl) T.b_sorted (by exact rfl) (da_cons (do_val (dx_bin op_addA pv_add (do_val (dx_kn none (Γc := Γ_beside) k_beside (by exact rfl) (takes_of (by exact rfl) (by exact rfl) (by exact rfl) (by exact rfl)) hr (by decide) (by exact rfl) (by exact rfl) (fun q e => nomatch e) (da_cons (do_val (dx_var (i := 0) (by exact rfl) (by exact Or.inl rfl) (by exact rfl))) (da_cons (do_val (dx_var (i := 2) (by exact rfl) (by exact Or.inl rfl) (by exact rfl))) da_nil)))) (do_val (dx_frz (dx_lst (da_cons (do_val (dx_var (i := 2) (by exact rfl) (by exact Or.inl rfl) (by exact rfl))) da_nil)))))) da_nil)))) (dg_name sc.nd (i := 5) (by exact rfl) (by exact Or.inl rfl) (by exact rfl) (by exact rfl) (by first | exact Or.inl rfl | exact Or.inr rfl)) (dss_one (ds_if (dt_w (dw_and (dt_cmp (op_eqD (hu64 hr)) pv_eq (do_val (dx_kn none (Γc := Γ_seers) k_seers (by exact rfl) (takes_of (by exact rfl) (by exact rfl) (by exact rfl) (by exact rfl)) hr (by decide) (by exact rfl) (by exact rfl) (fun q e => nomatch e) (da_cons (do_val (dx_var (i := 1) (by exact rfl) (by exact Or.inl rfl) (by exact rfl))) (da_cons (do_val (dx_frz (dx_lst (da_cons (do_val (dx_kn none (Γc := Γ_door_of) k_door_of (by exact rfl) (takes_of (by exact rfl) (by exact rfl) (by exact rfl) (by exact rfl)) hr (by decide) (by exact rfl) (by exact rfl) (fun q e => nomatch e) (da_cons (do_val (dx_var (i := 2) (by exact rfl) (by exact Or.inl rfl) (by exact rfl))) (da_cons (do_val (dx_var (i := 5) (by exact rfl) (by exact Or.inl rfl) (by exact rfl))) da_nil)))) da_nil)))) (da_cons (do_val (dx_var (i := 3) (by exact rfl) (by exact Or.inl rfl) (by exact rfl))) da_nil))))) (do_val (dx_frz (dx_lst da_nil))) (nomark _)) (dw_and1 (dt_cmp (op_eqD (hu64 hr)) pv_eq (do_val (dx_kn none (Γc := Γ_seers) k_seers (by exact rfl) (takes_of (by exact rfl) (by exact rfl) (by exact rfl) (by exact rfl)) hr (by decide) (by exact rfl) (by exact rfl) (fun q e => nomatch e) (da_cons (do_val (dx_var (i := 1) (by exact rfl) (by exact Or.inl rfl) (by exact rfl))) (da_cons (do_val (dx_frz (dx_lst (da_cons (do_val (dx_tup (da_cons (do_val (dx_str (z := "room"))) (da_cons (do_val (dx_var (i := 5) (by exact rfl) (by exact Or.inl rfl) (by exact rfl))) da_nil)))) da_nil)))) (da_cons (do_val (dx_bin op_addA pv_add (do_val (dx_var (i := 3) (by exact rfl) (by exact Or.inl rfl) (by exact rfl))) (do_val dx_int))) da_nil))))) (do_val (dx_frz (dx_lst da_nil))) (nomark _))))) (dss_one (ds_expr (dx_mut (j := 4) (by exact rfl) (by exact rfl) (by exact Or.inl rfl) PySem.F.plainAttrs_list PySem.F.slot_list_append PySem.F.type_list_append mt_append pv_append (da_cons (do_val (dx_var (i := 5) (by exact rfl) (by exact Or.inl rfl) (by exact rfl))) da_nil) (by exact rfl) (by exact rfl) (by exact rfl) (by exact rfl) (by exact rfl)))) dss_nil))) (dss_one (ds_ret (dx_frz (dx_mov (i := 4) (by exact rfl) (by exact Or.inl rfl) (by exact rfl)))))))⟩
abbrev K_ways_by_beat (P : Program) (w : World) (K : PySem.W.Frag) (mg : Str → Option Value) (base : Heap) (A : Nat → Addr) : Prop := Kn P w K mg base "ways_by_beat" 4 ["house", "watchers", "many"] Γ_ways_by_beat (cls A) none 3 .fz m_ways_by_beat
theorem sc_ways_by_beat : FnScope ["house", "watchers", "many", "made", "beat", "later", "way", "other"] ["house", "watchers", "many"] (defScope s_ways_by_beat) := ⟨rfl, rfl, rfl, by decide +kernel, rfl, by decide +kernel, by decide +kernel⟩
theorem ok_ways_by_beat (T : Txt K mg A CW) (k_steps_from : K_steps_from P w K mg base A) : K_ways_by_beat P w K mg base A := by
  obtain ⟨f, fd, Fn, g, b⟩ := T.f_ways_by_beat
  have sc := sc_ways_by_beat
  exact ⟨f, g, Fn.kp, fd, b, fn_ok (N := ["house", "watchers", "many", "made", "beat", "later", "way", "other"]) (lev := 3) (n := 3) (k := 5) Fn sc rfl rfl fun cdv A outer s H E O vs hr =>
    (dss_cons (ds_set sc.nd (i := 3) (by exact rfl) (by exact Or.inl rfl) (by exact rfl) (by exact Or.inl rfl) (dx_lst (da_cons (do_val (dx_frz (dx_dict1 (fun O => dx_int) (fun O => (dx_tup (da_cons (do_val dx_int) da_nil)))))) da_nil))) (dss_cons (ds_for (passes_of (by exact rfl)) (by exact rfl) (di_range1 (by exact rfl) T.b_range (dx_bin op_sub pv_sub (do_val (dx_var (i := 2) (by exact rfl) (by exact Or.inl rfl) (by exact rfl))) (do_val dx_int))) (dg_name sc.nd (i := 4) (by exact rfl) (by exact Or.inl rfl) (by exact rfl) (by exact rfl) (by first | exact Or.inl rfl | exact Or.inr rfl)) (dss_cons (ds_set sc.nd (i := 5) (by exact rfl) (by exact Or.inl rfl) (by exact rfl) (by exact Or.inl rfl) dx_dict0) (dss_cons (ds_for (passes_of (by exact rfl)) (by exact rfl) (di_of (by exact rfl) (dx_frz (dx_callB (cr_sortD (hu70 hr)) pv_sort (by exact rfl) T.b_sorted (by exact rfl) (da_cons (do_val (dx_frz (dx_listV (by exact rfl) (by exact rfl) (by exact rfl) T.b_list (by exact rfl) (do_val (dx_ix ix_seq pv_ix (do_slot (i := 3) (by exact rfl) (by exact Or.inl rfl) (by exact rfl)) (do_val (dx_un un_neg pv_neg (do_val dx_int))) (fun _ _ => rfl)))))) da_nil)))) (dg_name sc.nd (i := 6) (by exact rfl) (by exact Or.inl rfl) (by exact rfl) (by exact rfl) (by first | exact Or.inl rfl | exact Or.inr rfl)) (dss_one (ds_for (passes_of (by exact rfl)) (by exact rfl) (di_of (by exact rfl) (dx_kn none (Γc := Γ_steps_from) k_steps_from (by exact rfl) (takes_of (by exact rfl) (by exact rfl) (by exact rfl) (by exact rfl)) hr (by decide) (by exact rfl) (by exact rfl) (fun q e => nomatch e) (da_cons (do_val (dx_var (i := 0) (by exact rfl) (by exact Or.inl rfl) (by exact rfl))) (da_cons (do_val (dx_var (i := 1) (by exact rfl) (by exact Or.inl rfl) (by exact rfl))) (da_cons (do_val (dx_ix ix_seq pv_ix (do_val (dx_var (i := 6) (by exact rfl) (by exact Or.inl rfl) (by exact rfl))) (do_val (dx_un un_neg pv_neg (do_val dx_int))) (fun _ _ => rfl))) (da_cons (do_val (dx_var (i := 4) (by exact rfl) (by exact Or.inl rfl) (by exact rfl))) da_nil)))))) (dg_name sc.nd (i := 7) (by exact rfl) (by exact Or.inl rfl) (by exact rfl) (by exact rfl) (by first | exact Or.inl rfl | exact Or.inr rfl)) (dss_one (ds_expr (dx_nsetd (j := 5) (by exact rfl) (hu64 hr) (by exact rfl) (by exact rfl) (by exact Or.inl rfl) (dx_var (i := 7) (by exact rfl) (by exact Or.inl rfl) (by exact rfl)) (dx_bin op_addA pv_add (do_val (dx_var (i := 6) (by exact rfl) (by exact Or.inl rfl) (by exact rfl))) (do_val (dx_tup (da_cons (do_val (dx_var (i := 7) (by exact rfl) (by exact Or.inl rfl) (by exact rfl))) da_nil)))) ⟨rfl, rfl, rfl, rfl⟩)))))) (dss_one (ds_expr (dx_mut (j := 3) (by exact rfl) (by exact rfl) (by exact Or.inl rfl) PySem.F.plainAttrs_list PySem.F.slot_list_append PySem.F.type_list_append mt_append pv_append (da_cons (do_val (dx_frz (dx_mov (i := 5) (by exact rfl) (by exact Or.inl rfl) (by exact rfl)))) da_nil) (by exact rfl) (by exact rfl) (by exact rfl) (by exact rfl) (by exact rfl))))))) (dss_one (ds_ret (dx_frz (dx_mov (i := 3) (by exact rfl) (by exact Or.inl rfl) (by exact rfl)))))))⟩
abbrev K_unseen (P : Program) (w : World) (K : PySem.W.Frag) (mg : Str → Option Value) (base : Heap) (A : Nat → Addr) : Prop := Kn P w K mg base "unseen" 7 ["house", "watchers", "goal", "many"] Γ_unseen (cls A) none 4 .fz m_unseen
theorem sc_unseen : FnScope ["house", "watchers", "goal", "many", "ways", "by_room"] ["house", "watchers", "goal", "many"] (defScope s_unseen) := ⟨rfl, rfl, rfl, by decide +kernel, rfl, by decide +kernel, by decide +kernel⟩
theorem ok_unseen (T : Txt K mg A CW) (k_need_all : K_need_all P w K mg base A) (k_ways_by_beat : K_ways_by_beat P w K mg base A) : K_unseen P w K mg base A := by
  obtain ⟨f, fd, Fn, g, b⟩ := T.f_unseen
  have sc := sc_unseen
  exact ⟨f, g, Fn.kp, fd, b, fn_ok (N := ["house", "watchers", "goal", "many", "ways", "by_room"]) (lev := 6) (n := 4) (k := 2) Fn sc rfl rfl fun cdv A outer s H E O vs hr =>
    (dss_cons (ds_expr (dx_kn none (Γc := Γ_need_all) k_need_all (by exact rfl) (takes_of (by exact rfl) (by exact rfl) (by exact rfl) (by exact rfl)) hr (by decide) (by exact rfl) (by exact rfl) (fun q e => nomatch e) (da_cons (do_val (dx_var (i := 0) (by exact rfl) (by exact Or.inl rfl) (by exact rfl))) (da_cons (do_val (dx_var (i := 1) (by exact rfl) (by exact Or.inl rfl) (by exact rfl))) (da_cons (do_val (dx_var (i := 2) (by exact rfl) (by exact Or.inr (Or.inl rfl)) (by exact rfl))) (da_cons (do_val (dx_var (i := 3) (by exact rfl) (by exact Or.inl rfl) (by exact rfl))) da_nil)))))) (dss_cons (ds_setLcF (own := [("by_room", 5)]) (T' := (.nm 5)) (i := 4) (by exact rfl) sc.nd (by exact rfl) (by exact rfl) (by exact rfl) (by exact rfl) (sw_true (by exact rfl) (by exact rfl) (by exact rfl) (by decide +kernel)) (di_of (by exact rfl) (dx_kn none (Γc := Γ_ways_by_beat) k_ways_by_beat (by exact rfl) (takes_of (by exact rfl) (by exact rfl) (by exact rfl) (by exact rfl)) hr (by decide) (by exact rfl) (by exact rfl) (fun q e => nomatch e) (da_cons (do_val (dx_var (i := 0) (by exact rfl) (by exact Or.inl rfl) (by exact rfl))) (da_cons (do_val (dx_var (i := 1) (by exact rfl) (by exact Or.inl rfl) (by exact rfl))) (da_cons (do_val (dx_var (i := 3) (by exact rfl) (by exact Or.inl rfl) (by exact rfl))) da_nil))))) (blkOk_by (N := ["house", "watchers", "goal", "many", "ways", "by_room"]) (sc := defScope s_unseen) (by decide +kernel)) (by decide) (all1 (by exact rfl)) (all1 (by exact rfl)) (fun O s H C cl fp => (dg_name sc.nd (i := 5) (by exact rfl) (by exact Or.inl rfl) (by exact rfl) (by exact rfl) (by first | exact Or.inl rfl | exact Or.inr rfl))) (fun O s H C cl fp => (dts_one (dt_cmp (op_inN (hu64 hr)) pv_inN (do_val (dx_var (i := 2) (by exact rfl) (by first | exact Or.inr (Or.inl rfl) | exact Or.inr (Or.inr rfl)) (by exact rfl))) (do_val (dx_var (i := 5) (by exact rfl) (by exact Or.inl rfl) (by exact rfl))) (by with_unfolding_all rfl)))) (fun O s H C cl fp => (dx_nix (by exact rfl) (hu64 hr) (do_val (dx_var (i := 5) (by exact rfl) (by exact Or.inl rfl) (by exact rfl))) (do_val (dx_var (i := 2) (by exact rfl) (by first | exact Or.inr (Or.inl rfl) | exact Or.inr (Or.inr rfl)) (by exact rfl))) (fun _ _ => rfl)))) (dss_one (ds_ret (dx_ix ix_seq pv_ix (do_val (dx_bin op_addA pv_add (do_val (dx_var (i := 4) (by exact rfl) (by exact Or.inl rfl) (by exact rfl))) (do_val (dx_frz (dx_lst (da_cons (do_val dx_non) da_nil)))))) (do_val dx_int) (fun _ _ => rfl))))))⟩
abbrev K_law (P : Program) (w : World) (K : PySem.W.Frag) (mg : Str → Option Value) (base : Heap) (A : Nat → Addr) : Prop := Kn P w K mg base "law" 8 ["_law_script"] Γ_law (cls A) none 1 .fz m_law
theorem sc_law : FnScope ["_law_script", "_law_town", "_law_house_here", "_law_watchers_here", "_law_left", "_law_at", "_law_goal", "_law_number"] ["_law_script"] (defScope s_law) := ⟨rfl, rfl, rfl, by decide +kernel, rfl, by decide +kernel, by decide +kernel⟩
theorem run_law {f : Addr} {fd : FuncData} (T : Txt K mg A CW) (k__law_house : K__law_house P w K mg base A) (k__law_watchers : K__law_watchers P w K mg base A) (k_spare : K_spare P w K mg base A) (k_closer : K_closer P w K mg base A) (k_parted : K_parted P w K mg base A) (k_unseen : K_unseen P w K mg base A) (Fn : Fun K "law" "law" s_law f fd) : FnOk P w K mg base (L2.CX P w) 8 f fd ["_law_script"] (spF (P, w, K) Γ_law (cls A) none 1 .fz m_law) := by
  have sc := sc_law
  exact fn_ok (N := ["_law_script", "_law_town", "_law_house_here", "_law_watchers_here", "_law_left", "_law_at", "_law_goal", "_law_number"]) (lev := 7) (n := 1) (k := 7) Fn sc rfl rfl fun cdv A outer s H E O vs hr =>
    (dss_cons (ds_set sc.nd (i := 1) (by exact rfl) (by exact Or.inl rfl) (by exact rfl) (by exact Or.inl rfl) (dx_lst da_nil)) (dss_cons (ds_set sc.nd (i := 2) (by exact rfl) (by exact Or.inl rfl) (by exact rfl) (by exact Or.inl rfl) (dx_kn (some (1, 1)) (Γc := Γ__law_house) k__law_house (by exact rfl) (takes_of (by exact rfl) (by exact rfl) (by exact rfl) (by exact rfl)) hr (by decide) (by exact rfl) (by exact rfl) (fun q e => by cases e; rfl) (da_cons (do_val (dx_var (i := 0) (by exact rfl) (by exact Or.inl rfl) (by exact rfl))) (da_cons (do_lend (i := 1) (by exact rfl) (by exact Or.inl rfl)) (da_cons (do_val dx_int) da_nil))))) (dss_cons (ds_set sc.nd (i := 3) (by exact rfl) (by exact Or.inl rfl) (by exact rfl) (by exact Or.inl rfl) (dx_kn (some (1, 1)) (Γc := Γ__law_watchers) k__law_watchers (by exact rfl) (takes_of (by exact rfl) (by exact rfl) (by exact rfl) (by exact rfl)) hr (by decide) (by exact rfl) (by exact rfl) (fun q e => by cases e; rfl) (da_cons (do_val (dx_var (i := 0) (by exact rfl) (by exact Or.inl rfl) (by exact rfl))) (da_cons (do_lend (i := 1) (by exact rfl) (by exact Or.inl rfl)) (da_cons (do_val (dx_var (i := 2) (by exact rfl) (by exact Or.inl rfl) (by exact rfl))) (da_cons (do_val dx_int) da_nil)))))) (dss_cons (ds_set sc.nd (i := 4) (by exact rfl) (by exact Or.inl rfl) (by exact rfl) (by exact Or.inl rfl) (dx_var (i := 3) (by exact rfl) (by exact Or.inl rfl) (by exact rfl))) (dss_cons (ds_while (passes_of (by exact rfl)) (dt_cmp (op_neD (hu64 hr)) pv_ne (do_val (dx_kn none (Γc := Γ_spare) k_spare (by exact rfl) (takes_of (by exact rfl) (by exact rfl) (by exact rfl) (by exact rfl)) hr (by decide) (by exact rfl) (by exact rfl) (fun q e => nomatch e) (da_cons (do_val (dx_var (i := 2) (by exact rfl) (by exact Or.inl rfl) (by exact rfl))) (da_cons (do_val (dx_var (i := 4) (by exact rfl) (by exact Or.inl rfl) (by exact rfl))) da_nil)))) (do_val (dx_frz (dx_lst da_nil))) (nomark _)) (dss_cons (ds_set sc.nd (i := 5) (by exact rfl) (by exact Or.inl rfl) (by exact rfl) (by exact Or.inl rfl) (dx_ix ix_seq pv_ix (do_val (dx_kn none (Γc := Γ_spare) k_spare (by exact rfl) (takes_of (by exact rfl) (by exact rfl) (by exact rfl) (by exact rfl)) hr (by decide) (by exact rfl) (by exact rfl) (fun q e => nomatch e) (da_cons (do_val (dx_var (i := 2) (by exact rfl) (by exact Or.inl rfl) (by exact rfl))) (da_cons (do_val (dx_var (i := 4) (by exact rfl) (by exact Or.inl rfl) (by exact rfl))) da_nil)))) (do_val (dx_un un_neg pv_neg (do_val dx_int))) (fun _ _ => rfl))) (dss_one (ds_set sc.nd (i := 4) (by exact rfl) (by exact Or.inl rfl) (by exact rfl) (by exact Or.inl rfl) (dx_bin op_addA pv_add (do_val (dx_sl sl_all pv_sl (do_val (dx_var (i := 4) (by exact rfl) (by exact Or.inl rfl) (by exact rfl))) dp_none (dp_some (dx_var (i := 5) (by exact rfl) (by exact Or.inl rfl) (by exact rfl))))) (do_val (dx_sl sl_all pv_sl (do_val (dx_var (i := 4) (by exact rfl) (by exact Or.inl rfl) (by exact rfl))) (dp_some (dx_bin op_addA pv_add (do_val (dx_var (i := 5) (by exact rfl) (by exact Or.inl rfl) (by exact rfl))) (do_val dx_int))) dp_none))))))) (dss_cons (ds_if (dt_w (dw_or (dt_not (dt_val (dx_kn none (Γc := Γ_closer) k_closer (by exact rfl) (takes_of (by exact rfl) (by exact rfl) (by exact rfl) (by exact rfl)) hr (by decide) (by exact rfl) (by exact rfl) (fun q e => nomatch e) (da_cons (do_val (dx_var (i := 2) (by exact rfl) (by exact Or.inl rfl) (by exact rfl))) (da_cons (do_val (dx_var (i := 4) (by exact rfl) (by exact Or.inl rfl) (by exact rfl))) (da_cons (do_val (dx_var (i := 3) (by exact rfl) (by exact Or.inl rfl) (by exact rfl))) da_nil)))))) (dw_or1 (dt_cmp op_notN pv_isnot (do_val (dx_kn none (Γc := Γ_parted) k_parted (by exact rfl) (takes_of (by exact rfl) (by exact rfl) (by exact rfl) (by exact rfl)) hr (by decide) (by exact rfl) (by exact rfl) (fun q e => nomatch e) (da_cons (do_val (dx_var (i := 2) (by exact rfl) (by exact Or.inl rfl) (by exact rfl))) (da_cons (do_val (dx_var (i := 4) (by exact rfl) (by exact Or.inl rfl) (by exact rfl))) (da_cons (do_val (dx_var (i := 3) (by exact rfl) (by exact Or.inl rfl) (by exact rfl))) da_nil))))) (do_val dx_non) (nomark _))))) (dss_one (ds_ret dx_bl)) dss_nil) (dss_cons (ds_for (passes_of (by exact rfl)) (by exact rfl) (di_range2 (by exact rfl) T.b_range dx_int (dx_ix ix_seq pv_ix (do_val (dx_var (i := 2) (by exact rfl) (by exact Or.inl rfl) (by exact rfl))) (do_val dx_int) (fun _ _ => rfl))) (dg_name sc.nd (i := 6) (by exact rfl) (by exact Or.inl rfl) (by exact rfl) (by exact rfl) (by first | exact Or.inl rfl | exact Or.inr rfl)) (dss_one (ds_if (dt_cmp (op_neD (hu64 hr)) pv_ne (do_val (dx_kn none (Γc := Γ_unseen) k_unseen (by exact rfl) (takes_of (by exact rfl) (by exact rfl) (by exact rfl) (by exact rfl)) hr (by decide) (by exact rfl) (by exact rfl) (fun q e => nomatch e) (da_cons (do_val (dx_var (i := 2) (by exact rfl) (by exact Or.inl rfl) (by exact rfl))) (da_cons (do_val (dx_var (i := 4) (by exact rfl) (by exact Or.inl rfl) (by exact rfl))) (da_cons (do_val (dx_var (i := 6) (by exact rfl) (by exact Or.inl rfl) (by exact rfl))) (da_cons (do_val dx_int) da_nil)))))) (do_val (dx_kn none (Γc := Γ_unseen) k_unseen (by exact rfl) (takes_of (by exact rfl) (by exact rfl) (by exact rfl) (by exact rfl)) hr (by decide) (by exact rfl) (by exact rfl) (fun q e => nomatch e) (da_cons (do_val (dx_var (i := 2) (by exact rfl) (by exact Or.inl rfl) (by exact rfl))) (da_cons (do_val (dx_var (i := 3) (by exact rfl) (by exact Or.inl rfl) (by exact rfl))) (da_cons (do_val (dx_var (i := 6) (by exact rfl) (by exact Or.inl rfl) (by exact rfl))) (da_cons (do_val dx_int) da_nil)))))) (nomark _)) (dss_one (ds_ret dx_bl)) dss_nil))) (dss_cons (ds_for (passes_of (by exact rfl)) (by exact rfl) (di_range1 (by exact rfl) T.b_range (dx_callB call_lenA pv_len (by exact rfl) T.b_len (by exact rfl) (da_cons (do_val (dx_var (i := 4) (by exact rfl) (by exact Or.inl rfl) (by exact rfl))) da_nil))) (dg_name sc.nd (i := 7) (by exact rfl) (by exact Or.inl rfl) (by exact rfl) (by exact rfl) (by first | exact Or.inl rfl | exact Or.inr rfl)) (dss_one (ds_if (dt_cmp op_isN pv_is (do_val (dx_kn none (Γc := Γ_parted) k_parted (by exact rfl) (takes_of (by exact rfl) (by exact rfl) (by exact rfl) (by exact rfl)) hr (by decide) (by exact rfl) (by exact rfl) (fun q e => nomatch e) (da_cons (do_val (dx_var (i := 2) (by exact rfl) (by exact Or.inl rfl) (by exact rfl))) (da_cons (do_val (dx_bin op_addA pv_add (do_val (dx_sl sl_all pv_sl (do_val (dx_var (i := 4) (by exact rfl) (by exact Or.inl rfl) (by exact rfl))) dp_none (dp_some (dx_var (i := 7) (by exact rfl) (by exact Or.inl rfl) (by exact rfl))))) (do_val (dx_sl sl_all pv_sl (do_val (dx_var (i := 4) (by exact rfl) (by exact Or.inl rfl) (by exact rfl))) (dp_some (dx_bin op_addA pv_add (do_val (dx_var (i := 7) (by exact rfl) (by exact Or.inl rfl) (by exact rfl))) (do_val dx_int))) dp_none)))) (da_cons (do_val (dx_var (i := 4) (by exact rfl) (by exact Or.inl rfl) (by exact rfl))) da_nil))))) (do_val dx_non) (nomark _)) (dss_one (ds_ret dx_bl)) dss_nil))) (dss_one (ds_ret (dx_cmp (op_leD (hu64 hr)) pv_cmp (do_val (dx_callB call_lenA pv_len (by exact rfl) T.b_len (by exact rfl) (da_cons (do_val (dx_var (i := 4) (by exact rfl) (by exact Or.inl rfl) (by exact rfl))) da_nil))) (do_val (dx_callB call_lenA pv_len (by exact rfl) T.b_len (by exact rfl) (da_cons (do_val (dx_var (i := 3) (by exact rfl) (by exact Or.inl rfl) (by exact rfl))) da_nil))) (nomark _))))))))))))
end
def adr (A0 A1 A2 A4 : Addr) : Nat → Addr := fun j => match j with | 0 => A0 | 1 => A1 | 2 => A2 | _ => A4
end U

set_option Elab.async false
set_option linter.all false
set_option maxRecDepth 100000
set_option maxHeartbeats 4000000
namespace U
open PySem PySem.Spec PyProof.Rows L2 RZ PD
theorem all_mk {P : Program} {w : World} {K : PySem.W.Frag} {h : Heap} {mg : Str → Option Value} {fa fL CW A0 A1 A2 A4 : Addr} {odL anL : Option Addr} {slL : Array (Option Value)} {ocL kVL dcL pmL cdL ctL : Value} (KX : K.In h) (G : h.Ns mainGlobals mg) (hfa : mg "law" = some (.ref fa))
    (aW : PySem.W.nsIn K mainGlobals "WayError" = some (some (.ref CW)))
    (a0 : PySem.W.nsIn K mainGlobals "NoHouse" = some (some (.ref A0)))
    (a1 : PySem.W.nsIn K mainGlobals "NoWatchers" = some (some (.ref A1)))
    (a2 : PySem.W.nsIn K mainGlobals "NoGoal" = some (some (.ref A2)))
    (a4 : PySem.W.nsIn K mainGlobals "NoCount" = some (some (.ref A4)))
    (cW : ClsF K CW)
    (sW : PySem.W.subIn K (.ref CW) (.type "BaseException") = some true)
    (c0 : ClsF K A0)
    (c1 : ClsF K A1)
    (c2 : ClsF K A2)
    (c4 : ClsF K A4)
    (r0 : RaiF K A0 CW)
    (r1 : RaiF K A1 CW)
    (r2 : RaiF K A2 CW)
    (r4 : RaiF K A4 CW)
    (hn : PySem.W.specialIn K (.builtin "object.__class__") "__get__" = some (some (.builtin "getset_descriptor.__get__")))
    (ht : PySem.W.takesIn K (.builtin "object.__class__") = some true)
    (b_all : PySem.W.nsIn K mainGlobals "all" = some none)
    (b_any : PySem.W.nsIn K mainGlobals "any" = some none)
    (b_bool : PySem.W.nsIn K mainGlobals "bool" = some none)
    (b_enumerate : PySem.W.nsIn K mainGlobals "enumerate" = some none)
    (b_int : PySem.W.nsIn K mainGlobals "int" = some none)
    (b_isinstance : PySem.W.nsIn K mainGlobals "isinstance" = some none)
    (b_len : PySem.W.nsIn K mainGlobals "len" = some none)
    (b_list : PySem.W.nsIn K mainGlobals "list" = some none)
    (b_max : PySem.W.nsIn K mainGlobals "max" = some none)
    (b_min : PySem.W.nsIn K mainGlobals "min" = some none)
    (b_range : PySem.W.nsIn K mainGlobals "range" = some none)
    (b_sorted : PySem.W.nsIn K mainGlobals "sorted" = some none)
    (b_str : PySem.W.nsIn K mainGlobals "str" = some none)
    (b_tuple : PySem.W.nsIn K mainGlobals "tuple" = some none)
    (b_zip : PySem.W.nsIn K mainGlobals "zip" = some none)
    (t_BEATS : ∃ tk, PySem.W.nsIn K mainGlobals "BEATS" = some (some (.int 6 tk)))
    (t_DOORS : ∃ tk, PySem.W.nsIn K mainGlobals "DOORS" = some (some (.int 20 tk)))
    (t_MANY : ∃ tk, PySem.W.nsIn K mainGlobals "MANY" = some (some (.int 30 tk)))
    (t_ROOMS : ∃ tk, PySem.W.nsIn K mainGlobals "ROOMS" = some (some (.int 10 tk)))
    (t_WATCHERS : ∃ tk, PySem.W.nsIn K mainGlobals "WATCHERS" = some (some (.int 12 tk)))
    (f__law_cell_at : FnT K mg "_law_cell_at" s__law_cell_at ["_law_script", "_law_k"])
    (f__law_mixed : FnT K mg "_law_mixed" s__law_mixed ["_law_script", "_law_k", "_law_many"])
    (f__law_draw : FnT K mg "_law_draw" s__law_draw ["_law_script", "_law_town", "_law_many"])
    (f__law_house : FnT K mg "_law_house" s__law_house ["_law_script", "_law_town", "_law_most"])
    (f__law_pick : FnT K mg "_law_pick" s__law_pick ["_law_script", "_law_town", "_law_some"])
    (f__law_spots : FnT K mg "_law_spots" s__law_spots ["_law_house_here"])
    (f__law_watchers : FnT K mg "_law_watchers" s__law_watchers ["_law_script", "_law_town", "_law_house_here", "_law_most"])
    (f_is_whole : FnT K mg "is_whole" s_is_whole ["thing", "low", "most"])
    (f_is_rising : FnT K mg "is_rising" s_is_rising ["thing"])
    (f_is_door : FnT K mg "is_door" s_is_door ["rooms", "thing"])
    (f_is_house : FnT K mg "is_house" s_is_house ["thing"])
    (f_need_house : FnT K mg "need_house" s_need_house ["thing"])
    (f_all_spots : FnT K mg "all_spots" s_all_spots ["house"])
    (f_is_spot : FnT K mg "is_spot" s_is_spot ["house", "thing"])
    (f_is_watcher : FnT K mg "is_watcher" s_is_watcher ["house", "thing"])
    (f_are_watching : FnT K mg "are_watching" s_are_watching ["house", "thing"])
    (f_need_watchers : FnT K mg "need_watchers" s_need_watchers ["house", "thing"])
    (f_beside : FnT K mg "beside" s_beside ["house", "room"])
    (f_door_of : FnT K mg "door_of" s_door_of ["one", "other"])
    (f_sees : FnT K mg "sees" s_sees ["watcher", "spot", "beat"])
    (f_seers : FnT K mg "seers" s_seers ["watchers", "some", "beat"])
    (f_next_rows : FnT K mg "next_rows" s_next_rows ["house", "blind", "keen", "rows", "beat"])
    (f_seen_by_one : FnT K mg "seen_by_one" s_seen_by_one ["house", "keen", "blind"])
    (f_closer : FnT K mg "closer" s_closer ["house", "one", "other"])
    (f_spare : FnT K mg "spare" s_spare ["house", "watchers"])
    (f_parted : FnT K mg "parted" s_parted ["house", "one", "other"])
    (f_need_goal : FnT K mg "need_goal" s_need_goal ["house", "thing"])
    (f_need_all : FnT K mg "need_all" s_need_all ["house", "watchers", "goal", "many"])
    (f_steps_from : FnT K mg "steps_from" s_steps_from ["house", "watchers", "room", "beat"])
    (f_ways_by_beat : FnT K mg "ways_by_beat" s_ways_by_beat ["house", "watchers", "many"])
    (f_unseen : FnT K mg "unseen" s_unseen ["house", "watchers", "goal", "many"])
    (aL : PySem.W.nsIn K mainGlobals "law" = some (some (.ref fL))) (lL : K.lookup fL = some ⟨ocL, odL, .func (PySem.W.fnOf "law" "law" (defArgs s_law) (defBody s_law) (defScope s_law) .none kVL dcL pmL anL cdL ctL), slL⟩) (cL : PySem.W.codeIn K cdL "law" = true) (kL : PySem.W.keepIn K (.ref fL) = true) :
    ∃ fd : FuncData, (∀ (s : Shared) (v : Value), BindsTo s fd ⟨[v], []⟩ [("_law_script", v)]) ∧ ∀ base : Heap, K.In base → base.Ns mainGlobals mg → FnOk P w K mg base (L2.CX P w) 8 fa fd ["_law_script"] (spL (P, w, K)) := by
  have e := hfa.symm.trans (PySem.W.mg_of KX G aL)
  cases e
  have T : Txt K mg (adr A0 A1 A2 A4) CW := {
    b_all := PySem.W.mg_none_of KX G b_all,
    b_any := PySem.W.mg_none_of KX G b_any,
    b_bool := PySem.W.mg_none_of KX G b_bool,
    b_enumerate := PySem.W.mg_none_of KX G b_enumerate,
    b_int := PySem.W.mg_none_of KX G b_int,
    b_isinstance := PySem.W.mg_none_of KX G b_isinstance,
    b_len := PySem.W.mg_none_of KX G b_len,
    b_list := PySem.W.mg_none_of KX G b_list,
    b_max := PySem.W.mg_none_of KX G b_max,
    b_min := PySem.W.mg_none_of KX G b_min,
    b_range := PySem.W.mg_none_of KX G b_range,
    b_sorted := PySem.W.mg_none_of KX G b_sorted,
    b_str := PySem.W.mg_none_of KX G b_str,
    b_tuple := PySem.W.mg_none_of KX G b_tuple,
    b_zip := PySem.W.mg_none_of KX G b_zip,
    c_BEATS := (let ⟨_, e⟩ := t_BEATS; ⟨_, PySem.W.mg_of KX G e⟩),
    c_DOORS := (let ⟨_, e⟩ := t_DOORS; ⟨_, PySem.W.mg_of KX G e⟩),
    c_MANY := (let ⟨_, e⟩ := t_MANY; ⟨_, PySem.W.mg_of KX G e⟩),
    c_ROOMS := (let ⟨_, e⟩ := t_ROOMS; ⟨_, PySem.W.mg_of KX G e⟩),
    c_WATCHERS := (let ⟨_, e⟩ := t_WATCHERS; ⟨_, PySem.W.mg_of KX G e⟩),
    f__law_cell_at := f__law_cell_at,
    f__law_mixed := f__law_mixed,
    f__law_draw := f__law_draw,
    f__law_house := f__law_house,
    f__law_pick := f__law_pick,
    f__law_spots := f__law_spots,
    f__law_watchers := f__law_watchers,
    f_is_whole := f_is_whole,
    f_is_rising := f_is_rising,
    f_is_door := f_is_door,
    f_is_house := f_is_house,
    f_need_house := f_need_house,
    f_all_spots := f_all_spots,
    f_is_spot := f_is_spot,
    f_is_watcher := f_is_watcher,
    f_are_watching := f_are_watching,
    f_need_watchers := f_need_watchers,
    f_beside := f_beside,
    f_door_of := f_door_of,
    f_sees := f_sees,
    f_seers := f_seers,
    f_next_rows := f_next_rows,
    f_seen_by_one := f_seen_by_one,
    f_closer := f_closer,
    f_spare := f_spare,
    f_parted := f_parted,
    f_need_goal := f_need_goal,
    f_need_all := f_need_all,
    f_steps_from := f_steps_from,
    f_ways_by_beat := f_ways_by_beat,
    f_unseen := f_unseen,
    g_WayError := PySem.W.mg_of KX G aW,
    g_NoHouse := PySem.W.mg_of KX G a0,
    g_NoWatchers := PySem.W.mg_of KX G a1,
    g_NoGoal := PySem.W.mg_of KX G a2,
    g_NoCount := PySem.W.mg_of KX G a4,
    xc := fun k => by
      rcases rk_cases k with e | e | e | e <;> rw [e]
      · exact r0.xc
      · exact r1.xc
      · exact r2.xc
      · exact r4.xc,
    kc := fun k => by
      rcases rk_cases k with e | e | e | e <;> rw [e]
      · exact r0.kc
      · exact r1.kc
      · exact r2.kc
      · exact r4.kc,
    sb := fun k => by
      rcases rk_cases k with e | e | e | e <;> rw [e]
      · exact r0.sb
      · exact r1.sb
      · exact r2.sb
      · exact r4.sb,
    xm := fun k => by
      rcases rk_cases k with e | e | e | e <;> rw [e]
      · exact r0.xm cW sW
      · exact r1.xm cW sW
      · exact r2.xm cW sW
      · exact r4.xm cW sW,
    ec := fun k => by
      rcases rk_cases k with e | e | e | e <;> rw [e]
      · exact r0.ec c0 hn ht
      · exact r1.ec c1 hn ht
      · exact r2.ec c2 hn ht
      · exact r4.ec c4 hn ht,
    kv := fun k => by
      rcases rk_cases k with e | e | e | e <;> rw [e]
      · exact r0.kv
      · exact r1.kv
      · exact r2.kv
      · exact r4.kv,
    ty := fun k => by
      rcases rk_cases k with e | e | e | e <;> rw [e]
      · exact c0.ty
      · exact c1.ty
      · exact c2.ty
      · exact c4.ty }
  refine ⟨PySem.W.fnOf "law" "law" (defArgs s_law) (defBody s_law) (defScope s_law) .none kVL dcL pmL anL cdL ctL, fun s v => .of_eq rfl, fun base _ _ => ?_⟩
  have k__law_cell_at := ok__law_cell_at (P := P) (w := w) (base := base) T
  have k__law_mixed := ok__law_mixed (P := P) (w := w) (base := base) T k__law_cell_at
  have k__law_draw := ok__law_draw (P := P) (w := w) (base := base) T k__law_mixed
  have k__law_house := ok__law_house (P := P) (w := w) (base := base) T k__law_draw
  have k__law_pick := ok__law_pick (P := P) (w := w) (base := base) T k__law_draw
  have k__law_spots := ok__law_spots (P := P) (w := w) (base := base) T
  have k__law_watchers := ok__law_watchers (P := P) (w := w) (base := base) T k__law_draw k__law_pick k__law_spots
  have k_is_whole := ok_is_whole (P := P) (w := w) (base := base) T
  have k_is_rising := ok_is_rising (P := P) (w := w) (base := base) T
  have k_is_door := ok_is_door (P := P) (w := w) (base := base) T k_is_whole
  have k_is_house := ok_is_house (P := P) (w := w) (base := base) T k_is_whole k_is_rising k_is_door
  have k_need_house := ok_need_house (P := P) (w := w) (base := base) T k_is_house
  have k_all_spots := ok_all_spots (P := P) (w := w) (base := base) T
  have k_is_spot := ok_is_spot (P := P) (w := w) (base := base) T k_is_whole k_all_spots
  have k_is_watcher := ok_is_watcher (P := P) (w := w) (base := base) T k_is_spot
  have k_are_watching := ok_are_watching (P := P) (w := w) (base := base) T k_is_watcher k_is_rising
  have k_need_watchers := ok_need_watchers (P := P) (w := w) (base := base) T k_need_house k_are_watching
  have k_beside := ok_beside (P := P) (w := w) (base := base) T
  have k_door_of := ok_door_of (P := P) (w := w) (base := base) T
  have k_sees := ok_sees (P := P) (w := w) (base := base) T
  have k_seers := ok_seers (P := P) (w := w) (base := base) T k_sees
  have k_next_rows := ok_next_rows (P := P) (w := w) (base := base) T k_beside k_door_of k_seers
  have k_seen_by_one := ok_seen_by_one (P := P) (w := w) (base := base) T k_next_rows
  have k_closer := ok_closer (P := P) (w := w) (base := base) T k_need_watchers k_seen_by_one
  have k_spare := ok_spare (P := P) (w := w) (base := base) T k_need_watchers k_closer
  have k_parted := ok_parted (P := P) (w := w) (base := base) T k_need_watchers k_seen_by_one
  have k_need_goal := ok_need_goal (P := P) (w := w) (base := base) T k_is_whole
  have k_need_all := ok_need_all (P := P) (w := w) (base := base) T k_need_watchers k_need_goal k_is_whole
  have k_steps_from := ok_steps_from (P := P) (w := w) (base := base) T k_beside k_seers k_door_of
  have k_ways_by_beat := ok_ways_by_beat (P := P) (w := w) (base := base) T k_steps_from
  have k_unseen := ok_unseen (P := P) (w := w) (base := base) T k_need_all k_ways_by_beat
  exact (run_law T k__law_house k__law_watchers k_spare k_closer k_parted k_unseen (fun_mk (st := s_law) lL cL kL)).imp (spL_F rfl law_ok)
end U
open PySem PySem.W PyProof.Rows in
set_option maxRecDepth 100000 in
set_option maxHeartbeats 0 in
theorem PySem.Challenge.cw_unseenways_k37_whole_spare_ones_go_holds : PySem.Challenge.rw_unseenways_k37_whole_spare_ones_go.Holds := by
  w_on; o_law; k_head; (case hw => w_witness2)
  k_fill
  refine PD.walk_PD (l := PySem.Challenge.rw_unseenways_k37_whole_spare_ones_go) (lev := 8) (x := "_law_script") rfl (by decide) rfl ⟨rfl, by decide, by decide⟩ (fun w h Y => PySem.W.kIn_of Y) ?F
  case F =>
    intro w mg fa h KX G hmg
    refine' U.all_mk KX G hmg ?aW ?a0 ?a1 ?a2 ?a4 ?cW ?sW ?c0 ?c1 ?c2 ?c4 ?r0 ?r1 ?r2 ?r4 ?hn ?ht ?b_all ?b_any ?b_bool ?b_enumerate ?b_int ?b_isinstance ?b_len ?b_list ?b_max ?b_min ?b_range ?b_sorted ?b_str ?b_tuple ?b_zip ?t_BEATS ?t_DOORS ?t_MANY ?t_ROOMS ?t_WATCHERS ?f__law_cell_at ?f__law_mixed ?f__law_draw ?f__law_house ?f__law_pick ?f__law_spots ?f__law_watchers ?f_is_whole ?f_is_rising ?f_is_door ?f_is_house ?f_need_house ?f_all_spots ?f_is_spot ?f_is_watcher ?f_are_watching ?f_need_watchers ?f_beside ?f_door_of ?f_sees ?f_seers ?f_next_rows ?f_seen_by_one ?f_closer ?f_spare ?f_parted ?f_need_goal ?f_need_all ?f_steps_from ?f_ways_by_beat ?f_unseen ?aL ?lL ?cL ?kL
    (case aW => k_is)
    (case a0 => k_is)
    (case a1 => k_is)
    (case a2 => k_is)
    (case a4 => k_is)
    (case cW => exact ⟨by k_is, by k_is⟩)
    (case sW => k_is)
    (case c0 => exact ⟨by k_is, by k_is⟩)
    (case c1 => exact ⟨by k_is, by k_is⟩)
    (case c2 => exact ⟨by k_is, by k_is⟩)
    (case c4 => exact ⟨by k_is, by k_is⟩)
    (case r0 => exact ⟨by k_exc, by k_is, by k_is, by k_is, by k_is, by k_is, by k_is, by k_is, by k_is⟩)
    (case r1 => exact ⟨by k_exc, by k_is, by k_is, by k_is, by k_is, by k_is, by k_is, by k_is, by k_is⟩)
    (case r2 => exact ⟨by k_exc, by k_is, by k_is, by k_is, by k_is, by k_is, by k_is, by k_is, by k_is⟩)
    (case r4 => exact ⟨by k_exc, by k_is, by k_is, by k_is, by k_is, by k_is, by k_is, by k_is, by k_is⟩)
    (case hn => k_is)
    (case ht => k_is)
    (case b_all => k_is)
    (case b_any => k_is)
    (case b_bool => k_is)
    (case b_enumerate => k_is)
    (case b_int => k_is)
    (case b_isinstance => k_is)
    (case b_len => k_is)
    (case b_list => k_is)
    (case b_max => k_is)
    (case b_min => k_is)
    (case b_range => k_is)
    (case b_sorted => k_is)
    (case b_str => k_is)
    (case b_tuple => k_is)
    (case b_zip => k_is)
    (case t_BEATS => exact ⟨_, by k_is⟩)
    (case t_DOORS => exact ⟨_, by k_is⟩)
    (case t_MANY => exact ⟨_, by k_is⟩)
    (case t_ROOMS => exact ⟨_, by k_is⟩)
    (case t_WATCHERS => exact ⟨_, by k_is⟩)
    (case f__law_cell_at => exact PD.fnT_of KX G (by k_is) (by k_is) (by k_is) (by k_is) fun _ _ _ _ _ _ us hl => match us, hl with | [_, _], _ => rfl)
    (case f__law_mixed => exact PD.fnT_of KX G (by k_is) (by k_is) (by k_is) (by k_is) fun _ _ _ _ _ _ us hl => match us, hl with | [_, _, _], _ => rfl)
    (case f__law_draw => exact PD.fnT_of KX G (by k_is) (by k_is) (by k_is) (by k_is) fun _ _ _ _ _ _ us hl => match us, hl with | [_, _, _], _ => rfl)
    (case f__law_house => exact PD.fnT_of KX G (by k_is) (by k_is) (by k_is) (by k_is) fun _ _ _ _ _ _ us hl => match us, hl with | [_, _, _], _ => rfl)
    (case f__law_pick => exact PD.fnT_of KX G (by k_is) (by k_is) (by k_is) (by k_is) fun _ _ _ _ _ _ us hl => match us, hl with | [_, _, _], _ => rfl)
    (case f__law_spots => exact PD.fnT_of KX G (by k_is) (by k_is) (by k_is) (by k_is) fun _ _ _ _ _ _ us hl => match us, hl with | [_], _ => rfl)
    (case f__law_watchers => exact PD.fnT_of KX G (by k_is) (by k_is) (by k_is) (by k_is) fun _ _ _ _ _ _ us hl => match us, hl with | [_, _, _, _], _ => rfl)
    (case f_is_whole => exact PD.fnT_of KX G (by k_is) (by k_is) (by k_is) (by k_is) fun _ _ _ _ _ _ us hl => match us, hl with | [_, _, _], _ => rfl)
    (case f_is_rising => exact PD.fnT_of KX G (by k_is) (by k_is) (by k_is) (by k_is) fun _ _ _ _ _ _ us hl => match us, hl with | [_], _ => rfl)
    (case f_is_door => exact PD.fnT_of KX G (by k_is) (by k_is) (by k_is) (by k_is) fun _ _ _ _ _ _ us hl => match us, hl with | [_, _], _ => rfl)
    (case f_is_house => exact PD.fnT_of KX G (by k_is) (by k_is) (by k_is) (by k_is) fun _ _ _ _ _ _ us hl => match us, hl with | [_], _ => rfl)
    (case f_need_house => exact PD.fnT_of KX G (by k_is) (by k_is) (by k_is) (by k_is) fun _ _ _ _ _ _ us hl => match us, hl with | [_], _ => rfl)
    (case f_all_spots => exact PD.fnT_of KX G (by k_is) (by k_is) (by k_is) (by k_is) fun _ _ _ _ _ _ us hl => match us, hl with | [_], _ => rfl)
    (case f_is_spot => exact PD.fnT_of KX G (by k_is) (by k_is) (by k_is) (by k_is) fun _ _ _ _ _ _ us hl => match us, hl with | [_, _], _ => rfl)
    (case f_is_watcher => exact PD.fnT_of KX G (by k_is) (by k_is) (by k_is) (by k_is) fun _ _ _ _ _ _ us hl => match us, hl with | [_, _], _ => rfl)
    (case f_are_watching => exact PD.fnT_of KX G (by k_is) (by k_is) (by k_is) (by k_is) fun _ _ _ _ _ _ us hl => match us, hl with | [_, _], _ => rfl)
    (case f_need_watchers => exact PD.fnT_of KX G (by k_is) (by k_is) (by k_is) (by k_is) fun _ _ _ _ _ _ us hl => match us, hl with | [_, _], _ => rfl)
    (case f_beside => exact PD.fnT_of KX G (by k_is) (by k_is) (by k_is) (by k_is) fun _ _ _ _ _ _ us hl => match us, hl with | [_, _], _ => rfl)
    (case f_door_of => exact PD.fnT_of KX G (by k_is) (by k_is) (by k_is) (by k_is) fun _ _ _ _ _ _ us hl => match us, hl with | [_, _], _ => rfl)
    (case f_sees => exact PD.fnT_of KX G (by k_is) (by k_is) (by k_is) (by k_is) fun _ _ _ _ _ _ us hl => match us, hl with | [_, _, _], _ => rfl)
    (case f_seers => exact PD.fnT_of KX G (by k_is) (by k_is) (by k_is) (by k_is) fun _ _ _ _ _ _ us hl => match us, hl with | [_, _, _], _ => rfl)
    (case f_next_rows => exact PD.fnT_of KX G (by k_is) (by k_is) (by k_is) (by k_is) fun _ _ _ _ _ _ us hl => match us, hl with | [_, _, _, _, _], _ => rfl)
    (case f_seen_by_one => exact PD.fnT_of KX G (by k_is) (by k_is) (by k_is) (by k_is) fun _ _ _ _ _ _ us hl => match us, hl with | [_, _, _], _ => rfl)
    (case f_closer => exact PD.fnT_of KX G (by k_is) (by k_is) (by k_is) (by k_is) fun _ _ _ _ _ _ us hl => match us, hl with | [_, _, _], _ => rfl)
    (case f_spare => exact PD.fnT_of KX G (by k_is) (by k_is) (by k_is) (by k_is) fun _ _ _ _ _ _ us hl => match us, hl with | [_, _], _ => rfl)
    (case f_parted => exact PD.fnT_of KX G (by k_is) (by k_is) (by k_is) (by k_is) fun _ _ _ _ _ _ us hl => match us, hl with | [_, _, _], _ => rfl)
    (case f_need_goal => exact PD.fnT_of KX G (by k_is) (by k_is) (by k_is) (by k_is) fun _ _ _ _ _ _ us hl => match us, hl with | [_, _], _ => rfl)
    (case f_need_all => exact PD.fnT_of KX G (by k_is) (by k_is) (by k_is) (by k_is) fun _ _ _ _ _ _ us hl => match us, hl with | [_, _, _, _], _ => rfl)
    (case f_steps_from => exact PD.fnT_of KX G (by k_is) (by k_is) (by k_is) (by k_is) fun _ _ _ _ _ _ us hl => match us, hl with | [_, _, _, _], _ => rfl)
    (case f_ways_by_beat => exact PD.fnT_of KX G (by k_is) (by k_is) (by k_is) (by k_is) fun _ _ _ _ _ _ us hl => match us, hl with | [_, _, _], _ => rfl)
    (case f_unseen => exact PD.fnT_of KX G (by k_is) (by k_is) (by k_is) (by k_is) fun _ _ _ _ _ _ us hl => match us, hl with | [_, _, _, _], _ => rfl)
    (case aL => k_is)
    (case lL => k_is)
    (case cL => k_is)
    (case kL => k_is)

