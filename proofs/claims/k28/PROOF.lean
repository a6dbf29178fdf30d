import PyProof.Rows.All
import Wide.All
import OpenK.AllK
import Wide.FinOn
import HandS.ForMost
import HandS.ForExc
import HandS.IsInst
import HandS.Conv
import HandS.Zip
import HandS.TupAny
import HandS.TupMul
import HandS.CallSlots
import HandS.HotCalls
import HandS.ExcIs
import KE.SortCalls
import KE.DataCmp
import KE.KDictKeyed
import HandS.Wide
import KE.DataMinMax
import HandS.Deep
import HandS.RepeatKit
import HandS.TupSets
import KE.KRevSl
import PySem.Challenge.RW_unseenways_k28_names_refused
set_option Elab.async false
set_option linter.all false
set_option maxRecDepth 100000
set_option maxHeartbeats 4000000
/-! PDa: plain data over the abstract heap: what a value stands for, who may change it. -/
namespace PD
open PySem PySem.Spec PyProof.Rows L2

abbrev D := PyData
abbrev Env := List (Option D)
abbrev Bs := Program × World × PySem.W.Frag
abbrev Wr := Addr → Prop
def lim : Nat := 1000000
theorem lim_size {n : Nat} (h : n ≤ lim) : n ≤ sizeLine := Nat.le_trans h (by decide)
theorem lim_lt {n : Nat} (h : n < lim) : n < sizeLine := Nat.lt_of_lt_of_le h (by decide)

/-- a dict whose keys are tuples, by its entries -/
abbrev TEnt := NestedKey × Addr × Value
def TD (B : Bs) (a : Addr) (ks : List TEnt) : HO := .ext fun h => (a == sysModules) = false ∧ ∃ o es ep, h.get? a = some o ∧ o.ExactDict ∧ o.data = .dict es ep ∧ es.toList = ks.map (entryOfKey (nestedKind B.1 B.2.1)) ∧ (ks.map (·.1)).Nodup

def keyD : Key → D
  | .inl i => .int i
  | .inr x => .str x

mutual
/-- data as a key of a dict -/
def nkey : D → Option NestedKey
  | .none => some .none
  | .bool b => some (.num (if b then 1 else 0))
  | .int i => some (.num i)
  | .str x => some (.text x)
  | .tuple ds => (nkeys ds).map .tup
  | .list _ => none
  | .dict _ => none
def nkeys : List D → Option (List NestedKey)
  | [] => some []
  | d :: ds => (nkey d).bind fun k => (nkeys ds).map fun ks => k :: ks
end

/-- a list that the written part knows -/
def KL (B : Bs) (a : Addr) (xs : List V) : Prop := ∃ (its : List Value) (n : Nat), B.2.2.lookup a = some { cls := .type "list", data := .seq its.toArray n } ∧ xs.length ≤ sizeLine ∧ Vals xs its
/-- a list that is read and stays -/
def Rl (B : Bs) (H : Hp) (W : Wr) (a : Addr) (xs : List V) : Prop := (Rd H a (.lst xs) ∧ ¬ W a) ∨ KL B a xs
/-- a list that is read -/
def Rm (B : Bs) (H : Hp) (a : Addr) (xs : List V) : Prop := Rd H a (.lst xs) ∨ KL B a xs
theorem KL.sq {B : Bs} {H : Hp} {a : Addr} {xs : List V} (h : KL B a xs) : SqL B.2.2 H a xs := by
  obtain ⟨its, n, e, l, r⟩ := h
  exact .inr ⟨_, its.toArray, n, e, rfl, rfl, rfl, by simpa [← r.length] using l, by simpa using r⟩
theorem Rm.sq {B : Bs} {H : Hp} {a : Addr} {xs : List V} (h : Rm B H a xs) : SqL B.2.2 H a xs := h.elim .inl KL.sq
theorem Rl.rm {B : Bs} {H : Hp} {W : Wr} {a : Addr} {xs : List V} (h : Rl B H W a xs) : Rm B H a xs := h.imp And.left id
mutual
/-- the value stands for the data; none of its changeable parts is in W -/
inductive Rp (B : Bs) (H : Hp) (W : Wr) : V → D → Prop
  | non : Rp B H W .non .none
  | bl (b : Bool) : Rp B H W (.bl b) (.bool b)
  | int (i : Int) : Rp B H W (.int i) (.int i)
  | str {x : Str} : x.length ≤ lim → Rp B H W (.str x) (.str x)
  | lst {a : Addr} {xs : List V} {ds : List D} : Rl B H W a xs → ds.length ≤ lim → RpAll B H W xs ds → Rp B H W (.ref a) (.list ds)
  | tup {a : Addr} {xs : List V} {ds : List D} : Rd H a (.tup xs) → ¬ W a → ds.length ≤ lim → RpAll B H W xs ds → Rp B H W (.ref a) (.tuple ds)
  | dK {a : Addr} {kvs : List (Key × V)} {es : List (D × D)} : H a = some (.dK kvs) → ¬ W a → es.length ≤ lim → RpK B H W kvs es → Rp B H W (.ref a) (.dict es)
  | dT {a : Addr} {ks : List TEnt} {es : List (D × D)} : H a = some (TD B a ks) → ¬ W a → es.length ≤ lim → RpT B H W ks es → Rp B H W (.ref a) (.dict es)
inductive RpAll (B : Bs) (H : Hp) (W : Wr) : List V → List D → Prop
  | nil : RpAll B H W [] []
  | cons {v : V} {vs : List V} {d : D} {ds : List D} : Rp B H W v d → RpAll B H W vs ds → RpAll B H W (v :: vs) (d :: ds)
inductive RpK (B : Bs) (H : Hp) (W : Wr) : List (Key × V) → List (D × D) → Prop
  | nil : RpK B H W [] []
  | cons {k : Key} {v : V} {vs : List (Key × V)} {d : D} {ds : List (D × D)} : Rp B H W v d → RpK B H W vs ds → RpK B H W ((k, v) :: vs) ((keyD k, d) :: ds)
inductive RpT (B : Bs) (H : Hp) (W : Wr) : List TEnt → List (D × D) → Prop
  | nil : RpT B H W [] []
  | cons {k : NestedKey} {b : Addr} {u : Value} {v : V} {vs : List TEnt} {c d : D} {ds : List (D × D)} : nkey c = some k → Rp B H W (.ref b) c → RelV v u → Rp B H W v d → RpT B H W vs ds → RpT B H W ((k, b, u) :: vs) ((c, d) :: ds)
end

/-- all that stood stands -/
abbrev Ext (H H' : Hp) : Prop := ∀ a o, H a = some o → H' a = some o

section
variable {B : Bs} {H H' : Hp} {W W' : Wr}
theorem rd_keep {a : Addr} {u : HO} (h : Rd H a u) (k : ∀ o, H a = some o → H' a = some o) : Rd H' a u := by
  rcases h with h | ⟨o, h⟩
  · exact .inl (k _ h)
  · exact .inr ⟨o, k _ h⟩
theorem rd_some {a : Addr} {u : HO} (h : Rd H a u) : ∃ o, H a = some o := by
  rcases h with h | ⟨o, h⟩
  · exact ⟨_, h⟩
  · exact ⟨_, h⟩
theorem nw (k : ∀ a, W' a → W a ∨ H a = none) {a : Addr} (n : ¬ W a) (h : ∃ o, H a = some o) : ¬ W' a := fun q => by
  obtain ⟨o, e⟩ := h
  rcases k a q with z | z
  · exact n z
  · rw [e] at z; cases z

mutual
theorem Rp.keep (k1 : ∀ a o, H a = some o → ¬ W a → H' a = some o) (k2 : ∀ a, W' a → W a ∨ H a = none) : ∀ (d : D) {v : V}, Rp B H W v d → Rp B H' W' v d
  | .none, _, h => by cases h; exact .non
  | .bool _, _, h => by cases h; exact .bl _
  | .int _, _, h => by cases h; exact .int _
  | .str _, _, h => by cases h with | str z => exact .str z
  | .list ds, _, h => by
    cases h with
    | lst r l q => exact .lst (r.imp (fun ⟨r, n⟩ => ⟨rd_keep r fun o e => k1 _ o e n, nw k2 n (rd_some r)⟩) id) l (RpAll.keep k1 k2 ds q)
  | .tuple ds, _, h => by
    cases h with
    | tup r n l q => exact .tup (rd_keep r fun o e => k1 _ o e n) (nw k2 n (rd_some r)) l (RpAll.keep k1 k2 ds q)
  | .dict es, _, h => by
    cases h with
    | dK r n l q => exact .dK (k1 _ _ r n) (nw k2 n ⟨_, r⟩) l (RpK.keep k1 k2 es q)
    | dT r n l q => exact .dT (k1 _ _ r n) (nw k2 n ⟨_, r⟩) l (RpT.keep k1 k2 es q)
theorem RpAll.keep (k1 : ∀ a o, H a = some o → ¬ W a → H' a = some o) (k2 : ∀ a, W' a → W a ∨ H a = none) : ∀ (ds : List D) {vs : List V}, RpAll B H W vs ds → RpAll B H' W' vs ds
  | [], _, h => by cases h; exact .nil
  | d :: ds, _, h => by
    cases h with
    | cons a b => exact .cons (Rp.keep k1 k2 d a) (RpAll.keep k1 k2 ds b)
theorem RpK.keep (k1 : ∀ a o, H a = some o → ¬ W a → H' a = some o) (k2 : ∀ a, W' a → W a ∨ H a = none) : ∀ (ds : List (D × D)) {vs : List (Key × V)}, RpK B H W vs ds → RpK B H' W' vs ds
  | [], _, h => by cases h; exact .nil
  | (_, d) :: ds, _, h => by
    cases h with
    | cons a b => exact .cons (Rp.keep k1 k2 d a) (RpK.keep k1 k2 ds b)
theorem RpT.keep (k1 : ∀ a o, H a = some o → ¬ W a → H' a = some o) (k2 : ∀ a, W' a → W a ∨ H a = none) : ∀ (ds : List (D × D)) {vs : List TEnt}, RpT B H W vs ds → RpT B H' W' vs ds
  | [], _, h => by cases h; exact .nil
  | (c, d) :: ds, _, h => by
    cases h with
    | cons e a r b t => exact .cons e (Rp.keep k1 k2 c a) r (Rp.keep k1 k2 d b) (RpT.keep k1 k2 ds t)
end
theorem Rp.anti {v : V} {d : D} (k : ∀ a, W' a → W a) (h : Rp B H W v d) : Rp B H W' v d := Rp.keep (fun _ _ e _ => e) (fun a q => .inl (k a q)) d h
theorem RpAll.anti {v : List V} {d : List D} (k : ∀ a, W' a → W a) (h : RpAll B H W v d) : RpAll B H W' v d := RpAll.keep (fun _ _ e _ => e) (fun a q => .inl (k a q)) d h
theorem Rp.ext {v : V} {d : D} (k : Ext H H') (h : Rp B H W v d) : Rp B H' W v d := Rp.keep (fun _ _ e _ => k _ _ e) (fun a q => .inl q) d h
theorem RpAll.ext {v : List V} {d : List D} (k : Ext H H') (h : RpAll B H W v d) : RpAll B H' W v d := RpAll.keep (fun _ _ e _ => k _ _ e) (fun a q => .inl q) d h

theorem RpAll.length : ∀ {ds : List D} {vs : List V}, RpAll B H W vs ds → vs.length = ds.length
  | [], _, h => by cases h; rfl
  | _ :: _, _, h => by cases h with | cons _ b => simp [RpAll.length b]
theorem RpAll.append : ∀ {ds es : List D} {vs ws : List V}, RpAll B H W vs ds → RpAll B H W ws es → RpAll B H W (vs ++ ws) (ds ++ es)
  | [], _, _, _, h, h' => by cases h; exact h'
  | _ :: _, _, _, _, h, h' => by cases h with | cons a b => exact .cons a (RpAll.append b h')
theorem RpAll.one {v : V} {d : D} (h : Rp B H W v d) : RpAll B H W [v] [d] := .cons h .nil
theorem RpAll.get : ∀ {ds : List D} {vs : List V} {i : Nat} {d : D}, RpAll B H W vs ds → ds[i]? = some d → ∃ v, vs[i]? = some v ∧ Rp B H W v d
  | [], _, _, _, h, e => by simp at e
  | _ :: _, _, 0, _, h, e => by
    cases h with
    | cons a b => simp at e; subst e; exact ⟨_, rfl, a⟩
  | _ :: _, _, i + 1, _, h, e => by
    cases h with
    | cons a b =>
      obtain ⟨v, q, r⟩ := RpAll.get (i := i) b (by simpa using e)
      exact ⟨v, by simpa using q, r⟩
theorem RpAll.getV : ∀ {ds : List D} {vs : List V} {i : Nat} {v : V}, RpAll B H W vs ds → vs[i]? = some v → ∃ d, ds[i]? = some d ∧ Rp B H W v d
  | [], _, _, _, h, e => by cases h; simp at e
  | _ :: _, _, 0, _, h, e => by
    cases h with
    | cons a b => simp at e; subst e; exact ⟨_, rfl, a⟩
  | _ :: _, _, i + 1, _, h, e => by
    cases h with
    | cons a b =>
      obtain ⟨v, q, r⟩ := RpAll.getV (i := i) b (by simpa using e)
      exact ⟨v, by simpa using q, r⟩
theorem RpAll.take : ∀ {ds : List D} {vs : List V} (n : Nat), RpAll B H W vs ds → RpAll B H W (vs.take n) (ds.take n)
  | _, _, 0, _ => by simpa using .nil
  | [], _, _ + 1, h => by cases h; exact .nil
  | _ :: _, _, n + 1, h => by cases h with | cons a b => exact .cons a (RpAll.take n b)
theorem RpAll.drop : ∀ {ds : List D} {vs : List V} (n : Nat), RpAll B H W vs ds → RpAll B H W (vs.drop n) (ds.drop n)
  | _, _, 0, h => h
  | [], _, _ + 1, h => by cases h; exact .nil
  | _ :: _, _, n + 1, h => by cases h with | cons a b => exact RpAll.drop n b
theorem RpAll.set : ∀ {ds : List D} {vs : List V} (n : Nat) {v : V} {d : D}, RpAll B H W vs ds → Rp B H W v d → RpAll B H W (vs.set n v) (ds.set n d)
  | [], _, _, _, _, h, _ => by cases h; exact .nil
  | _ :: _, _, 0, _, _, h, r => by cases h with | cons a b => exact .cons r b
  | _ :: _, _, n + 1, _, _, h, r => by cases h with | cons a b => exact .cons a (RpAll.set n b r)
theorem RpAll.eraseIdx : ∀ {ds : List D} {vs : List V} (n : Nat), RpAll B H W vs ds → RpAll B H W (vs.eraseIdx n) (ds.eraseIdx n)
  | [], _, _, h => by cases h; simpa using .nil
  | _ :: _, _, 0, h => by cases h with | cons a b => simpa using b
  | _ :: _, _, n + 1, h => by cases h with | cons a b => simpa using .cons a (RpAll.eraseIdx n b)
theorem RpAll.reverse {ds : List D} {vs : List V} (h : RpAll B H W vs ds) : RpAll B H W vs.reverse ds.reverse := by
  induction ds generalizing vs with
  | nil => cases h; exact .nil
  | cons d ds ih =>
    cases h with
    | cons a b => simpa using (ih b).append (.one a)
theorem RpAll.dropLast {ds : List D} {vs : List V} (h : RpAll B H W vs ds) : RpAll B H W vs.dropLast ds.dropLast := by
  rw [List.dropLast_eq_take, List.dropLast_eq_take, h.length]
  exact h.take _
theorem RpAll.rep {ds : List D} {vs : List V} (h : RpAll B H W vs ds) : ∀ k : Nat, RpAll B H W (List.replicate k vs).flatten (List.replicate k ds).flatten
  | 0 => by simpa using .nil
  | k + 1 => by
    rw [List.replicate_succ, List.replicate_succ, List.flatten_cons, List.flatten_cons]
    exact h.append (RpAll.rep h k)
end

/-! ### ownership -/
/-- fz: frozen; else a changeable thing whose children are .. -/
inductive T where
  | fz | lst (t : T) | dct (t : T)

mutual
/-- data none of whose parts can be changed -/
def imm : D → Bool
  | .none => true
  | .bool _ => true
  | .int _ => true
  | .str _ => true
  | .tuple ds => imms ds
  | .list _ => false
  | .dict _ => false
def imms : List D → Bool
  | [] => true
  | d :: ds => imm d && imms ds
end

mutual
/-- the value stands for the data, owned as t says; Fl: the owned parts -/
inductive Own (B : Bs) (H : Hp) (W : Wr) : T → V → D → List Addr → Prop
  | fz {v : V} {d : D} : Rp B H W v d → Own B H W .fz v d []
  | imm {t : T} {v : V} {d : D} : imm d = true → Rp B H W v d → Own B H W t v d []
  | lst {t : T} {a : Addr} {xs : List V} {ds : List D} {Fl : List Addr} : H a = some (.lst xs) → ds.length ≤ lim → OwnAll B H W t xs ds Fl → Own B H W (.lst t) (.ref a) (.list ds) (a :: Fl)
  | dK {t : T} {a : Addr} {kvs : List (Key × V)} {es : List (D × D)} {Fl : List Addr} : H a = some (.dK kvs) → es.length ≤ lim → OwnK B H W t kvs es Fl → Own B H W (.dct t) (.ref a) (.dict es) (a :: Fl)
  | dT {t : T} {a : Addr} {ks : List TEnt} {es : List (D × D)} {Fl : List Addr} : H a = some (TD B a ks) → es.length ≤ lim → OwnT B H W t ks es Fl → Own B H W (.dct t) (.ref a) (.dict es) (a :: Fl)
inductive OwnAll (B : Bs) (H : Hp) (W : Wr) : T → List V → List D → List Addr → Prop
  | nil {t : T} : OwnAll B H W t [] [] []
  | cons {t : T} {v : V} {vs : List V} {d : D} {ds : List D} {F1 F2 : List Addr} : Own B H W t v d F1 → OwnAll B H W t vs ds F2 → OwnAll B H W t (v :: vs) (d :: ds) (F1 ++ F2)
inductive OwnK (B : Bs) (H : Hp) (W : Wr) : T → List (Key × V) → List (D × D) → List Addr → Prop
  | nil {t : T} : OwnK B H W t [] [] []
  | cons {t : T} {k : Key} {v : V} {vs : List (Key × V)} {d : D} {ds : List (D × D)} {F1 F2 : List Addr} : Own B H W t v d F1 → OwnK B H W t vs ds F2 → OwnK B H W t ((k, v) :: vs) ((keyD k, d) :: ds) (F1 ++ F2)
inductive OwnT (B : Bs) (H : Hp) (W : Wr) : T → List TEnt → List (D × D) → List Addr → Prop
  | nil {t : T} : OwnT B H W t [] [] []
  | cons {t : T} {k : NestedKey} {b : Addr} {u : Value} {v : V} {vs : List TEnt} {c d : D} {ds : List (D × D)} {F1 F2 : List Addr} : nkey c = some k → Rp B H W (.ref b) c → RelV v u → Own B H W t v d F1 → OwnT B H W t vs ds F2 → OwnT B H W t ((k, b, u) :: vs) ((c, d) :: ds) (F1 ++ F2)
end

end PD

set_option Elab.async false
set_option linter.all false
set_option maxRecDepth 100000
set_option maxHeartbeats 4000000
/-! PDb: ownership, environments, what a piece of code is worth. -/
namespace PD
open PySem PySem.Spec PyProof.Rows L2

section
variable {B : Bs} {H H' : Hp} {W W' : Wr}
mutual
theorem Own.keep (k2 : ∀ a, W' a → W a ∨ H a = none) : ∀ (d : D) {t : T} {v : V} {Fl : List Addr}, (∀ a o, H a = some o → (a ∈ Fl ∨ ¬ W a) → H' a = some o) → Own B H W t v d Fl → Own B H' W' t v d Fl
  | .none, _, _, _, k1, h => by
    cases h with
    | fz r => exact .fz (Rp.keep (fun a o e n => k1 a o e (.inr n)) k2 _ r)
    | imm i r => exact .imm i (Rp.keep (fun a o e n => k1 a o e (.inr n)) k2 _ r)
  | .bool _, _, _, _, k1, h => by
    cases h with
    | fz r => exact .fz (Rp.keep (fun a o e n => k1 a o e (.inr n)) k2 _ r)
    | imm i r => exact .imm i (Rp.keep (fun a o e n => k1 a o e (.inr n)) k2 _ r)
  | .int _, _, _, _, k1, h => by
    cases h with
    | fz r => exact .fz (Rp.keep (fun a o e n => k1 a o e (.inr n)) k2 _ r)
    | imm i r => exact .imm i (Rp.keep (fun a o e n => k1 a o e (.inr n)) k2 _ r)
  | .str _, _, _, _, k1, h => by
    cases h with
    | fz r => exact .fz (Rp.keep (fun a o e n => k1 a o e (.inr n)) k2 _ r)
    | imm i r => exact .imm i (Rp.keep (fun a o e n => k1 a o e (.inr n)) k2 _ r)
  | .tuple _, _, _, _, k1, h => by
    cases h with
    | fz r => exact .fz (Rp.keep (fun a o e n => k1 a o e (.inr n)) k2 _ r)
    | imm i r => exact .imm i (Rp.keep (fun a o e n => k1 a o e (.inr n)) k2 _ r)
  | .list ds, _, _, _, k1, h => by
    cases h with
    | fz r => exact .fz (Rp.keep (fun a o e n => k1 a o e (.inr n)) k2 _ r)
    | imm i r => exact .imm i (Rp.keep (fun a o e n => k1 a o e (.inr n)) k2 _ r)
    | lst e l q => exact .lst (k1 _ _ e (.inl List.mem_cons_self)) l (OwnAll.keep k2 ds (fun a o e z => k1 a o e (z.imp (List.mem_cons_of_mem _) id)) q)
  | .dict es, _, _, _, k1, h => by
    cases h with
    | fz r => exact .fz (Rp.keep (fun a o e n => k1 a o e (.inr n)) k2 _ r)
    | imm i r => exact .imm i (Rp.keep (fun a o e n => k1 a o e (.inr n)) k2 _ r)
    | dK e l q => exact .dK (k1 _ _ e (.inl List.mem_cons_self)) l (OwnK.keep k2 es (fun a o e z => k1 a o e (z.imp (List.mem_cons_of_mem _) id)) q)
    | dT e l q => exact .dT (k1 _ _ e (.inl List.mem_cons_self)) l (OwnT.keep k2 es (fun a o e z => k1 a o e (z.imp (List.mem_cons_of_mem _) id)) q)
theorem OwnAll.keep (k2 : ∀ a, W' a → W a ∨ H a = none) : ∀ (ds : List D) {t : T} {vs : List V} {Fl : List Addr}, (∀ a o, H a = some o → (a ∈ Fl ∨ ¬ W a) → H' a = some o) → OwnAll B H W t vs ds Fl → OwnAll B H' W' t vs ds Fl
  | [], _, _, _, _, h => by cases h; exact .nil
  | d :: ds, _, _, _, k1, h => by
    cases h with
    | cons a b => exact .cons (Own.keep k2 d (fun a o e z => k1 a o e (z.imp (List.mem_append_left _) id)) a) (OwnAll.keep k2 ds (fun a o e z => k1 a o e (z.imp (List.mem_append_right _) id)) b)
theorem OwnK.keep (k2 : ∀ a, W' a → W a ∨ H a = none) : ∀ (ds : List (D × D)) {t : T} {vs : List (Key × V)} {Fl : List Addr}, (∀ a o, H a = some o → (a ∈ Fl ∨ ¬ W a) → H' a = some o) → OwnK B H W t vs ds Fl → OwnK B H' W' t vs ds Fl
  | [], _, _, _, _, h => by cases h; exact .nil
  | (_, d) :: ds, _, _, _, k1, h => by
    cases h with
    | cons a b => exact .cons (Own.keep k2 d (fun a o e z => k1 a o e (z.imp (List.mem_append_left _) id)) a) (OwnK.keep k2 ds (fun a o e z => k1 a o e (z.imp (List.mem_append_right _) id)) b)
theorem OwnT.keep (k2 : ∀ a, W' a → W a ∨ H a = none) : ∀ (ds : List (D × D)) {t : T} {vs : List TEnt} {Fl : List Addr}, (∀ a o, H a = some o → (a ∈ Fl ∨ ¬ W a) → H' a = some o) → OwnT B H W t vs ds Fl → OwnT B H' W' t vs ds Fl
  | [], _, _, _, _, h => by cases h; exact .nil
  | (c, d) :: ds, _, _, _, k1, h => by
    cases h with
    | cons e r1 r2 a b => exact .cons e (Rp.keep (fun a o e n => k1 a o e (.inr n)) k2 c r1) r2 (Own.keep k2 d (fun a o e z => k1 a o e (z.imp (List.mem_append_left _) id)) a) (OwnT.keep k2 ds (fun a o e z => k1 a o e (z.imp (List.mem_append_right _) id)) b)
end
/-! what is owned, frozen -/
mutual
theorem Own.rp (k : ∀ a, W' a → W a) : ∀ (d : D) {t : T} {v : V} {Fl : List Addr}, (∀ a ∈ Fl, ¬ W' a) → Own B H W t v d Fl → Rp B H W' v d
  | .none, _, _, _, _, h => by
    cases h with
    | fz r => exact Rp.anti k r
    | imm _ r => exact Rp.anti k r
  | .bool _, _, _, _, _, h => by
    cases h with
    | fz r => exact Rp.anti k r
    | imm _ r => exact Rp.anti k r
  | .int _, _, _, _, _, h => by
    cases h with
    | fz r => exact Rp.anti k r
    | imm _ r => exact Rp.anti k r
  | .str _, _, _, _, _, h => by
    cases h with
    | fz r => exact Rp.anti k r
    | imm _ r => exact Rp.anti k r
  | .tuple _, _, _, _, _, h => by
    cases h with
    | fz r => exact Rp.anti k r
    | imm _ r => exact Rp.anti k r
  | .list ds, _, _, _, n, h => by
    cases h with
    | fz r => exact Rp.anti k r
    | imm _ r => exact Rp.anti k r
    | lst e l q => exact .lst (.inl ⟨.inl e, n _ List.mem_cons_self⟩) l (OwnAll.rp k ds (fun a z => n a (List.mem_cons_of_mem _ z)) q)
  | .dict es, _, _, _, n, h => by
    cases h with
    | fz r => exact Rp.anti k r
    | imm _ r => exact Rp.anti k r
    | dK e l q => exact .dK e (n _ List.mem_cons_self) l (OwnK.rp k es (fun a z => n a (List.mem_cons_of_mem _ z)) q)
    | dT e l q => exact .dT e (n _ List.mem_cons_self) l (OwnT.rp k es (fun a z => n a (List.mem_cons_of_mem _ z)) q)
theorem OwnAll.rp (k : ∀ a, W' a → W a) : ∀ (ds : List D) {t : T} {vs : List V} {Fl : List Addr}, (∀ a ∈ Fl, ¬ W' a) → OwnAll B H W t vs ds Fl → RpAll B H W' vs ds
  | [], _, _, _, _, h => by cases h; exact .nil
  | d :: ds, _, _, _, n, h => by
    cases h with
    | cons a b => exact .cons (Own.rp k d (fun a z => n a (List.mem_append_left _ z)) a) (OwnAll.rp k ds (fun a z => n a (List.mem_append_right _ z)) b)
theorem OwnK.rp (k : ∀ a, W' a → W a) : ∀ (ds : List (D × D)) {t : T} {vs : List (Key × V)} {Fl : List Addr}, (∀ a ∈ Fl, ¬ W' a) → OwnK B H W t vs ds Fl → RpK B H W' vs ds
  | [], _, _, _, _, h => by cases h; exact .nil
  | (_, d) :: ds, _, _, _, n, h => by
    cases h with
    | cons a b => exact .cons (Own.rp k d (fun a z => n a (List.mem_append_left _ z)) a) (OwnK.rp k ds (fun a z => n a (List.mem_append_right _ z)) b)
theorem OwnT.rp (k : ∀ a, W' a → W a) : ∀ (ds : List (D × D)) {t : T} {vs : List TEnt} {Fl : List Addr}, (∀ a ∈ Fl, ¬ W' a) → OwnT B H W t vs ds Fl → RpT B H W' vs ds
  | [], _, _, _, _, h => by cases h; exact .nil
  | (c, d) :: ds, _, _, _, n, h => by
    cases h with
    | cons e r1 r2 a b => exact .cons e (Rp.anti k r1) r2 (Own.rp k d (fun a z => n a (List.mem_append_left _ z)) a) (OwnT.rp k ds (fun a z => n a (List.mem_append_right _ z)) b)
end
theorem Own.fz_inv {v : V} {d : D} {Fl : List Addr} (h : Own B H W .fz v d Fl) : Fl = [] ∧ Rp B H W v d := by
  cases h with
  | fz r => exact ⟨rfl, r⟩
  | imm _ r => exact ⟨rfl, r⟩
theorem OwnAll.fz_inv : ∀ {ds : List D} {vs : List V} {Fl : List Addr}, OwnAll B H W .fz vs ds Fl → Fl = [] ∧ RpAll B H W vs ds
  | [], _, _, h => by cases h; exact ⟨rfl, .nil⟩
  | d :: ds, _, _, h => by
    cases h with
    | cons a b =>
      obtain ⟨rfl, r⟩ := Own.fz_inv a
      obtain ⟨rfl, q⟩ := OwnAll.fz_inv b
      exact ⟨rfl, .cons r q⟩
theorem OwnAll.of_rp : ∀ {ds : List D} {vs : List V}, RpAll B H W vs ds → OwnAll B H W .fz vs ds []
  | [], _, h => by cases h; exact .nil
  | d :: ds, _, h => by
    cases h with
    | cons a b => exact .cons (F1 := []) (F2 := []) (.fz a) (OwnAll.of_rp b)
/-- a list whose items are frozen -/
theorem Own.lst_inv {v : V} {ds : List D} {Fl : List Addr} (h : Own B H W (.lst .fz) v (.list ds) Fl) : ∃ a xs, v = .ref a ∧ Fl = [a] ∧ H a = some (.lst xs) ∧ ds.length ≤ lim ∧ RpAll B H W xs ds := by
  cases h with
  | imm i _ => simp [PD.imm] at i
  | lst e l q =>
    obtain ⟨rfl, r⟩ := OwnAll.fz_inv q
    exact ⟨_, _, rfl, rfl, e, l, r⟩
theorem Own.lst_of {a : Addr} {xs : List V} {ds : List D} (e : H a = some (.lst xs)) (l : ds.length ≤ lim) (r : RpAll B H W xs ds) : Own B H W (.lst .fz) (.ref a) (.list ds) [a] := .lst e l (.of_rp r)
end

/-! ### environments -/
def updF (F : Nat → List Addr) (i : Nat) (Fl : List Addr) : Nat → List Addr := fun j => if j = i then Fl else F j
theorem updF_same {F : Nat → List Addr} {i : Nat} {Fl : List Addr} : updF F i Fl i = Fl := by unfold updF; rw [if_pos rfl]
theorem updF_ne {F : Nat → List Addr} {i j : Nat} {Fl : List Addr} (h : j ≠ i) : updF F i Fl j = F j := by unfold updF; rw [if_neg h]
def Wof (F : Nat → List Addr) (O : Wr) : Wr := fun a => (∃ i, a ∈ F i) ∨ O a
structure Sg where
  B : Bs
  Γ : Nat → T
  O : Wr
  pin : Nat → Option V
  cl : Nat → Value
def Sg.add (G : Sg) (Fl : List Addr) : Sg := { G with O := fun a => G.O a ∨ a ∈ Fl }
theorem Sg.add_nil (G : Sg) : G.add [] = G := by
  obtain ⟨b, g, o, p, c⟩ := G
  unfold Sg.add
  congr 1
  funext a
  simp
structure EnvOk (G : Sg) (σ : L2.St) (ρ : Env) (H : Hp) (F : Nat → List Addr) : Prop where
  len : σ.length = ρ.length
  slot : ∀ (i : Nat) d, ρ[i]? = some (some d) → ∃ v, σ[i]? = some (some v) ∧ Own G.B H (Wof F G.O) (G.Γ i) v d (F i)
  nd : ∀ i, (F i).Nodup
  dj : ∀ i j a, a ∈ F i → a ∈ F j → i = j
  og : ∀ i a, a ∈ F i → ¬ G.O a
  hv : ∀ i a, a ∈ F i → ∃ o, H a = some o
  oh : ∀ a, G.O a → ∃ o, H a = some o
  pn : ∀ (i : Nat) v, G.pin i = some v → σ[i]? = some (some v)
  ff : ∀ i, G.Γ i = .fz → F i = []
structure Evo (H : Hp) (F : Nat → List Addr) (H' : Hp) (F' : Nat → List Addr) (Fl : List Addr) : Prop where
  keep : ∀ a o, H a = some o → (∀ i, a ∉ F i) → H' a = some o
  new : ∀ a, ((∃ i, a ∈ F' i) ∨ a ∈ Fl) → (∃ j, a ∈ F j) ∨ H a = none

section
variable {G : Sg} {σ : L2.St} {ρ : Env} {H H' H'' : Hp} {F F' F'' : Nat → List Addr} {Fl Fl' : List Addr}
theorem Evo.refl : Evo H F H F [] := ⟨fun _ _ e _ => e, fun a z => .inl (z.elim id fun q => nomatch q)⟩
theorem Evo.of_ext (k : Ext H H') : Evo H F H' F [] := ⟨fun a o e _ => k a o e, fun a z => .inl (z.elim id fun q => nomatch q)⟩
theorem Evo.trans (a : Evo H F H' F' []) (b : Evo H' F' H'' F'' Fl) : Evo H F H'' F'' Fl where
  keep := fun x o e n => b.keep x o (a.keep x o e n) fun i hi => by
    rcases a.new x (.inl ⟨i, hi⟩) with ⟨j, hj⟩ | z
    · exact n j hj
    · rw [e] at z; cases z
  new := fun x z => by
    rcases b.new x z with q | q
    · exact a.new x (.inl q)
    · cases e : H x with
      | none => exact .inr rfl
      | some o =>
        refine .inl (Classical.byContradiction fun n => ?_)
        rw [a.keep x o e fun i hi => n ⟨i, hi⟩] at q
        cases q
theorem Evo.drop (a : Evo H F H' F' Fl) : Evo H F H' F' [] := ⟨a.keep, fun x z => a.new x (z.elim .inl fun q => nomatch q)⟩
theorem Evo.k1 (e : Evo H F H' F' Fl) {O : Wr} : ∀ a o, H a = some o → ¬ Wof F O a → H' a = some o := fun a o q n => e.keep a o q fun i hi => n (.inl ⟨i, hi⟩)
theorem Evo.k2 (e : Evo H F H' F' Fl) {O : Wr} : ∀ a, Wof F' (fun a => O a ∨ a ∈ Fl) a → Wof F O a ∨ H a = none := fun a z => by
  rcases z with z | z | z
  · exact (e.new a (.inl z)).imp .inl id
  · exact .inl (.inr z)
  · exact (e.new a (.inr z)).imp .inl id
theorem Evo.k2' (e : Evo H F H' F' Fl) {O : Wr} : ∀ a, Wof F' O a → Wof F O a ∨ H a = none := fun a z => by
  rcases z with z | z
  · exact (e.new a (.inl z)).imp .inl id
  · exact .inl (.inr z)
theorem Rp.evo {B : Bs} {O : Wr} {v : V} {d : D} (r : Rp B H (Wof F O) v d) (e : Evo H F H' F' Fl) : Rp B H' (Wof F' O) v d := Rp.keep e.k1 e.k2' d r
theorem Rp.evoA {B : Bs} {O : Wr} {v : V} {d : D} (r : Rp B H (Wof F O) v d) (e : Evo H F H' F' Fl) : Rp B H' (Wof F' (fun a => O a ∨ a ∈ Fl)) v d := Rp.keep e.k1 e.k2 d r
theorem RpAll.evo {B : Bs} {O : Wr} {v : List V} {d : List D} (r : RpAll B H (Wof F O) v d) (e : Evo H F H' F' Fl) : RpAll B H' (Wof F' O) v d := RpAll.keep e.k1 e.k2' d r
theorem Own.ext {B : Bs} {W : Wr} {t : T} {v : V} {d : D} (k : Ext H H') (h : Own B H W t v d Fl) : Own B H' W t v d Fl := Own.keep (fun a q => .inl q) d (fun a o e _ => k a o e) h
theorem Own.anti {B : Bs} {W W' : Wr} {t : T} {v : V} {d : D} (k : ∀ a, W' a → W a) (h : Own B H W t v d Fl) : Own B H W' t v d Fl := Own.keep (fun a q => .inl (k a q)) d (fun a o e _ => e) h
theorem EnvOk.ext (E : EnvOk G σ ρ H F) (k : Ext H H') : EnvOk G σ ρ H' F where
  len := E.len
  slot := fun i d e => by
    obtain ⟨v, h1, h2⟩ := E.slot i d e
    exact ⟨v, h1, h2.ext k⟩
  nd := E.nd
  dj := E.dj
  og := E.og
  hv := fun i a h => let ⟨o, e⟩ := E.hv i a h; ⟨o, k _ _ e⟩
  oh := fun a h => let ⟨o, e⟩ := E.oh a h; ⟨o, k _ _ e⟩
  pn := E.pn
  ff := E.ff
/-- fewer may be written -/
theorem EnvOk.weak {O' : Wr} (E : EnvOk G σ ρ H F) (k : ∀ a, O' a → G.O a) : EnvOk { G with O := O' } σ ρ H F where
  len := E.len
  slot := fun i d e => by
    obtain ⟨v, h1, h2⟩ := E.slot i d e
    exact ⟨v, h1, h2.anti fun a q => q.imp id (k a)⟩
  nd := E.nd
  dj := E.dj
  og := fun i a h q => E.og i a h (k a q)
  hv := E.hv
  oh := fun a h => E.oh a (k a h)
  pn := E.pn
  ff := E.ff
theorem EnvOk.drop (E : EnvOk (G.add Fl) σ ρ H F) : EnvOk G σ ρ H F := by
  have := E.weak (O' := G.O) fun a h => Or.inl h
  exact this
theorem Wof_none {O : Wr} {p : Addr} (E : EnvOk G σ ρ H F) (hp : H p = none) : ¬ Wof F G.O p := fun z => by
  rcases z with ⟨i, hi⟩ | z
  · obtain ⟨o, e⟩ := E.hv i p hi
    rw [hp] at e; cases e
  · obtain ⟨o, e⟩ := E.oh p z
    rw [hp] at e; cases e
/-- a new thing, owned by none of the slots -/
theorem EnvOk.new {p : Addr} (E : EnvOk G σ ρ H F) (hp : H p = none) (k : Ext H H') (hp' : ∃ o, H' p = some o) : EnvOk (G.add [p]) σ ρ H' F where
  len := E.len
  slot := fun i d e => by
    obtain ⟨v, h1, h2⟩ := E.slot i d e
    refine ⟨v, h1, Own.keep (fun a q => ?_) d (fun a o e _ => k a o e) h2⟩
    rcases q with q | q | q
    · exact .inl (.inl q)
    · exact .inl (.inr q)
    · right
      rw [List.mem_singleton.mp q]
      exact hp
  nd := E.nd
  dj := E.dj
  og := fun i a h q => by
    rcases q with q | q
    · exact E.og i a h q
    · obtain ⟨o, e⟩ := E.hv i a h
      rw [List.mem_singleton.mp q, hp] at e
      cases e
  hv := fun i a h => let ⟨o, e⟩ := E.hv i a h; ⟨o, k _ _ e⟩
  oh := fun a h => by
    rcases h with h | h
    · obtain ⟨o, e⟩ := E.oh a h
      exact ⟨o, k _ _ e⟩
    · rw [List.mem_singleton.mp h]
      exact hp'
  pn := E.pn
  ff := E.ff
theorem Evo.one {p : Addr} (k : Ext H H') (hp : H p = none) : Evo H F H' F [p] := ⟨fun a o e _ => k a o e, fun a z => by
  rcases z with z | z
  · exact .inl z
  · rw [List.mem_singleton.mp z]
    exact .inr hp⟩
theorem get_set_some {α : Type} {l : List α} {i j : Nat} {x y : α} (h : (l.set i x)[j]? = some y) : (j = i ∧ y = x ∧ i < l.length) ∨ (j ≠ i ∧ l[j]? = some y) := by
  by_cases e : j = i
  · subst e
    left
    rw [List.getElem?_set] at h
    simp only [if_true] at h
    split at h
    · rename_i q
      exact ⟨rfl, (Option.some.inj h).symm, q⟩
    · cases h
  · right
    rw [List.getElem?_set_ne (Ne.symm e)] at h
    exact ⟨e, h⟩
/-- a slot is given an owned value -/
theorem EnvOk.setOwn {i : Nat} {v : V} {d : D} (E : EnvOk (G.add Fl) σ ρ H F) (ho : Own G.B H (Wof F (G.add Fl).O) (G.Γ i) v d Fl) (nd : Fl.Nodup) (no : ∀ a ∈ Fl, ¬ G.O a) (hp : G.pin i = none) (hi : i < ρ.length) : EnvOk G (σ.set i (some v)) (ρ.set i (some d)) H (updF F i Fl) := by
  have sub : ∀ a, Wof (updF F i Fl) G.O a → Wof F (G.add Fl).O a := fun a z => by
    rcases z with ⟨j, hj⟩ | z
    · by_cases e : j = i
      · subst e
        rw [updF_same] at hj
        exact .inr (.inr hj)
      · rw [updF_ne e] at hj
        exact .inl ⟨j, hj⟩
    · exact .inr (.inl z)
  have io : ∀ j a, j ≠ i → a ∈ updF F i Fl j → a ∈ F j := fun j a e h => by rwa [updF_ne e] at h
  have inFl : ∀ a, a ∈ updF F i Fl i → a ∈ Fl := fun a h => by rwa [updF_same] at h
  refine ⟨by simpa using E.len, fun j e h => ?_, fun j => ?_, fun j k a hj hk => ?_, fun j a h q => ?_, fun j a h => ?_, fun a h => E.oh a (.inl h), fun j u h => ?_, fun j hj => ?_⟩
  · rcases get_set_some h with ⟨rfl, e1, _⟩ | ⟨ne, h⟩
    · cases e1
      refine ⟨v, List.getElem?_set_self (by rw [E.len]; exact hi), ?_⟩
      rw [updF_same]
      exact ho.anti sub
    · obtain ⟨u, h1, h2⟩ := E.slot j e h
      refine ⟨u, by rw [List.getElem?_set_ne (Ne.symm ne)]; exact h1, ?_⟩
      rw [updF_ne ne]
      exact h2.anti sub
  · by_cases e : j = i
    · subst e; rw [updF_same]; exact nd
    · rw [updF_ne e]; exact E.nd j
  · by_cases e1 : j = i
    · by_cases e2 : k = i
      · rw [e1, e2]
      · subst e1
        exact absurd (Or.inr (inFl a hj)) (E.og k a (io k a e2 hk))
    · by_cases e2 : k = i
      · subst e2
        exact absurd (Or.inr (inFl a hk)) (E.og j a (io j a e1 hj))
      · exact E.dj j k a (io j a e1 hj) (io k a e2 hk)
  · by_cases e : j = i
    · subst e
      exact no a (inFl a h) q
    · exact E.og j a (io j a e h) (.inl q)
  · by_cases e : j = i
    · subst e
      exact E.oh a (.inr (inFl a h))
    · exact E.hv j a (io j a e h)
  · by_cases e : j = i
    · subst e
      rw [hp] at h
      cases h
    · rw [List.getElem?_set_ne (Ne.symm e)]
      exact E.pn j u h
  · by_cases e : j = i
    · subst e
      rw [updF_same]
      rw [hj] at ho
      exact (Own.fz_inv ho).1
    · rw [updF_ne e]
      exact E.ff j hj
end
end PD

set_option Elab.async false
set_option linter.all false
set_option maxRecDepth 100000
set_option maxHeartbeats 4000000
/-! PDc: results, readings, the judgements, generic rules of expressions. -/
namespace PD
open PySem PySem.Spec PyProof.Rows L2

inductive Res (α : Type) where
  | ok (a : α) (ρ : Env)
  | exc (c : Nat) (ρ : Env)
  | err
def bnd {α β : Type} (m : Res α) (k : α → Env → Res β) : Res β := match m with
  | .ok a ρ => k a ρ
  | .exc c ρ => .exc c ρ
  | .err => .err
@[simp] theorem bnd_ok {α β : Type} {a : α} {ρ : Env} {k : α → Env → Res β} : bnd (.ok a ρ) k = k a ρ := rfl
@[simp] theorem bnd_exc {α β : Type} {c : Nat} {ρ : Env} {k : α → Env → Res β} : bnd (.exc c ρ) k = .exc c ρ := rfl
@[simp] theorem bnd_err {α β : Type} {k : α → Env → Res β} : bnd .err k = .err := rfl
def ofO {α : Type} (o : Option α) (ρ : Env) : Res α := match o with
  | some a => .ok a ρ
  | none => .err
@[simp] theorem ofO_some {α : Type} {a : α} {ρ : Env} : ofO (some a) ρ = .ok a ρ := rfl
@[simp] theorem ofO_none {α : Type} {ρ : Env} : ofO (none : Option α) ρ = .err := rfl
def slotD (ρ : Env) (i : Nat) : Option D := (ρ[i]?).bind id
/-- an operand: a value, a slot that is only looked at, a slot that is lent -/
inductive Arg where
  | val (d : D)
  | io (j : Nat)
  | lnd (j : Nat)
def deref (ρ : Env) : Arg → Option D
  | .val d => some d
  | .io j => slotD ρ j
  | .lnd _ => none
def derefs (ρ : Env) : List Arg → Option (List D)
  | [] => some []
  | a :: as => (deref ρ a).bind fun d => (derefs ρ as).map fun ds => d :: ds

def FlOk (G : Sg) (Fl : List Addr) : Prop := Fl.Nodup ∧ ∀ a ∈ Fl, ¬ G.O a
theorem FlOk.nil {G : Sg} : FlOk G [] := ⟨List.nodup_nil, fun _ h => nomatch h⟩
def Go (G : Sg) (W : WX) (σ : L2.St) {α : Type} (m : Res α) (H : Hp) (F : Nat → List Addr) (K : α → Env → Hp → (Nat → List Addr) → List Addr → Prop) : Prop :=
  match m with
  | .ok a ρ' => ∀ H' F' Fl, Evo H F H' F' Fl → FlOk G Fl → EnvOk (G.add Fl) σ ρ' H' F' → K a ρ' H' F' Fl
  | .exc c ρ' => ∀ H' F', Evo H F H' F' [] → EnvOk G σ ρ' H' F' → W (G.cl c) none σ H'
  | .err => False
section
variable {G : Sg} {W : WX} {σ : L2.St} {α β : Type} {H H1 H' : Hp} {F F1 F' : Nat → List Addr} {Fl : List Addr} {ρ : Env}
theorem Go.after {m : Res α} {K : α → Env → Hp → (Nat → List Addr) → List Addr → Prop} (g : Go G W σ m H F K) (e : Evo H F H1 F1 []) : Go G W σ m H1 F1 K := by
  cases m with
  | ok a ρ' => exact fun H' F' Fl v f E => g H' F' Fl (e.trans v) f E
  | exc c ρ' => exact fun H' F' v E => g H' F' (e.trans v) E
  | err => exact g
theorem Go.bind {m : Res α} {k : α → Env → Res β} {K : β → Env → Hp → (Nat → List Addr) → List Addr → Prop} (g : Go G W σ (bnd m k) H F K) :
    Go G W σ m H F fun a ρ1 H1 F1 Fl => Evo H F H1 F1 Fl ∧ FlOk G Fl ∧ EnvOk (G.add Fl) σ ρ1 H1 F1 ∧ Go G W σ (k a ρ1) H1 F1 K := by
  cases m with
  | ok a ρ' => exact fun H' F' Fl v f E => ⟨v, f, E, Go.after g v.drop⟩
  | exc c ρ' => exact g
  | err => exact g
theorem Go.imp {m : Res α} {K K' : α → Env → Hp → (Nat → List Addr) → List Addr → Prop} (g : Go G W σ m H F K) (h : ∀ a ρ' H' F' Fl, K a ρ' H' F' Fl → K' a ρ' H' F' Fl) : Go G W σ m H F K' := by
  cases m with
  | ok a ρ' => exact fun H' F' Fl v f E => h _ _ _ _ _ (g H' F' Fl v f E)
  | exc c ρ' => exact g
  | err => exact g

/-! ### readings -/
def tX (G : Sg) (W : WX) (t : T) (f : Env → Res D) : TE := fun σ H Q => ∃ F ρ, EnvOk G σ ρ H F ∧
  Go G W σ (f ρ) H F fun d _ H' F' Fl => ∀ v, Own G.B H' (Wof F' (G.add Fl).O) t v d Fl → Q v H'
def tB (G : Sg) (W : WX) (f : Env → Res Bool) : TT := fun σ H Q => ∃ F ρ, EnvOk G σ ρ H F ∧
  Go G W σ (f ρ) H F fun b _ H' _ Fl => Fl = [] → Q b H'
/-- looked at: the top may be owned by a slot -/
def Rq (B : Bs) (H : Hp) (W : Wr) (v : V) (d : D) : Prop := Rp B H W v d ∨ (∃ a xs ds, v = .ref a ∧ d = .list ds ∧ H a = some (.lst xs) ∧ ds.length ≤ lim ∧ RpAll B H W xs ds) ∨
  (∃ a kvs es, v = .ref a ∧ d = .dict es ∧ H a = some (.dK kvs) ∧ es.length ≤ lim ∧ RpK B H W kvs es) ∨ (∃ a ks es, v = .ref a ∧ d = .dict es ∧ H a = some (TD B a ks) ∧ es.length ≤ lim ∧ RpT B H W ks es)
inductive RqAll (B : Bs) (H : Hp) (W : Wr) : List V → List D → Prop
  | nil : RqAll B H W [] []
  | cons {v : V} {vs : List V} {d : D} {ds : List D} : Rq B H W v d → RqAll B H W vs ds → RqAll B H W (v :: vs) (d :: ds)
def plainT : T → Bool
  | .fz => true
  | .lst .fz => true
  | .dct .fz => true
  | _ => false
def ArgOk (G : Sg) (σ : L2.St) (H : Hp) (F : Nat → List Addr) (v : V) : Arg → Prop
  | .val d => Rp G.B H (Wof F G.O) v d
  | .io j => σ[j]? = some (some v) ∧ plainT (G.Γ j) = true
  | .lnd j => σ[j]? = some (some v)
inductive ArgsOk (G : Sg) (σ : L2.St) (H : Hp) (F : Nat → List Addr) : List V → List Arg → Prop
  | nil : ArgsOk G σ H F [] []
  | cons {v : V} {vs : List V} {a : Arg} {as : List Arg} : ArgOk G σ H F v a → ArgsOk G σ H F vs as → ArgsOk G σ H F (v :: vs) (a :: as)
def tO (G : Sg) (W : WX) (f : Env → Res Arg) : TE := fun σ H Q => ∃ F ρ, EnvOk G σ ρ H F ∧
  Go G W σ (f ρ) H F fun a _ H' F' Fl => Fl = [] → ∀ v, ArgOk G σ H' F' v a → Q v H'
def tAs (G : Sg) (W : WX) (f : Env → Res (List Arg)) : TA := fun σ H Q => ∃ F ρ, EnvOk G σ ρ H F ∧
  Go G W σ (f ρ) H F fun as _ H' F' Fl => Fl = [] → ∀ vs, ArgsOk G σ H' F' vs as → Q vs H'
theorem ArgOk.evo {v : V} {a : Arg} (h : ArgOk G σ H F v a) (e : Evo H F H' F' Fl) : ArgOk G σ H' F' v a := by
  cases a with
  | val d => exact Rp.evo h e
  | io j => exact h
  | lnd j => exact h
theorem ArgsOk.evo : ∀ {vs : List V} {as : List Arg}, ArgsOk G σ H F vs as → Evo H F H' F' Fl → ArgsOk G σ H' F' vs as
  | _, _, .nil, _ => .nil
  | _, _, .cons a b, e => .cons (a.evo e) (b.evo e)
theorem Own.rq {B : Bs} {H : Hp} {W : Wr} {t : T} {v : V} {d : D} {Fl : List Addr} (h : Own B H W t v d Fl) (ht : t = .fz ∨ t = .lst .fz ∨ t = .dct .fz) : Rq B H W v d := by
  cases h with
  | fz r => exact .inl r
  | imm _ r => exact .inl r
  | lst e l q =>
    rcases ht with ht | ht | ht <;> cases ht
    obtain ⟨_, r⟩ := OwnAll.fz_inv q
    exact .inr (.inl ⟨_, _, _, rfl, rfl, e, l, r⟩)
  | dK e l q =>
    rcases ht with ht | ht | ht <;> cases ht
    refine .inr (.inr (.inl ⟨_, _, _, rfl, rfl, e, l, ?_⟩))
    clear e l
    rename_i kvs es Fl
    induction es generalizing kvs Fl with
    | nil => cases q; exact .nil
    | cons x es ih =>
      cases q with
      | cons a b => exact .cons (Own.fz_inv a).2 (ih b)
  | dT e l q =>
    rcases ht with ht | ht | ht <;> cases ht
    refine .inr (.inr (.inr ⟨_, _, _, rfl, rfl, e, l, ?_⟩))
    clear e l
    rename_i kvs es Fl
    induction es generalizing kvs Fl with
    | nil => cases q; exact .nil
    | cons x es ih =>
      cases q with
      | cons e1 e2 e3 a b => exact .cons e1 e2 e3 (Own.fz_inv a).2 (ih b)
theorem plainT_cases {t : T} (h : plainT t = true) : t = .fz ∨ t = .lst .fz ∨ t = .dct .fz := by
  cases t with
  | fz => exact .inl rfl
  | lst t => cases t <;> first | exact .inr (.inl rfl) | cases h
  | dct t => cases t <;> first | exact .inr (.inr rfl) | cases h
theorem slotD_some {ρ : Env} {i : Nat} {d : D} (h : slotD ρ i = some d) : ρ[i]? = some (some d) := by
  unfold slotD at h
  cases e : ρ[i]? with
  | none => rw [e] at h; cases h
  | some o =>
    rw [e] at h
    cases o with
    | none => cases h
    | some x => cases h; rfl
theorem ArgOk.rq {v : V} {a : Arg} {d : D} (h : ArgOk G σ H F v a) (E : EnvOk G σ ρ H F) (e : deref ρ a = some d) : Rq G.B H (Wof F G.O) v d := by
  cases a with
  | val x => cases e; exact .inl h
  | io j =>
    obtain ⟨u, h1, h2⟩ := E.slot j d (slotD_some e)
    obtain ⟨h', p⟩ := h
    rw [h'] at h1
    cases h1
    exact h2.rq (plainT_cases p)
  | lnd j => cases e
theorem ArgsOk.rq : ∀ {vs : List V} {as : List Arg} {ds : List D}, ArgsOk G σ H F vs as → EnvOk G σ ρ H F → derefs ρ as = some ds → RqAll G.B H (Wof F G.O) vs ds
  | _, [], ds, h, _, e => by
    cases h
    have e : some [] = some ds := e
    cases e
    exact .nil
  | _, a :: as, ds, h, E, e => by
    cases h with
    | cons h1 h2 =>
      unfold derefs at e
      cases e1 : deref ρ a with
      | none => rw [e1] at e; cases e
      | some d =>
        rw [e1] at e
        cases e2 : derefs ρ as with
        | none => rw [e2] at e; cases e
        | some es =>
          rw [e2] at e
          cases e
          exact .cons (h1.rq E e1) (h2.rq E e2)
end

/-! ### the judgements -/
def BOf (X : Cx) : Bs := (X.prog, X.w, X.K)
abbrev DX (X : Cx) (G : Sg) (W : WX) (t : T) (e : Expr) (f : Env → Res D) : Prop := PE X e (tX G W t f)
abbrev DO (X : Cx) (G : Sg) (W : WX) (e : Expr) (f : Env → Res Arg) : Prop := PE X e (tO G W f)
abbrev DT (X : Cx) (G : Sg) (W : WX) (e : Expr) (f : Env → Res Bool) : Prop := PT X e (tB G W f)
abbrev DW (X : Cx) (G : Sg) (W : WX) (e : Expr) (f : Env → Res Bool) : Prop := PW X e (tB G W f)
abbrev DA (X : Cx) (G : Sg) (W : WX) (es : List Expr) (f : Env → Res (List Arg)) : Prop := PA X es (tAs G W f)

theorem PE.imp {X : Cx} {e : Expr} {t t' : TE} (h : PE X e t) (i : ∀ σ H Q, t' σ H Q → t σ H Q) : PE X e t' := ⟨fun pins s σ H Q I w => h.run pins s σ H Q I (i σ H Q w)⟩
theorem PT.imp {X : Cx} {e : Expr} {t t' : TT} (h : PT X e t) (i : ∀ σ H Q, t' σ H Q → t σ H Q) : PT X e t' := ⟨fun pins s σ H Q I w => h.run pins s σ H Q I (i σ H Q w)⟩
theorem PW.imp {X : Cx} {e : Expr} {t t' : TT} (h : PW X e t) (i : ∀ σ H Q, t' σ H Q → t σ H Q) : PW X e t' := ⟨fun wh pins s σ H Q I w => h.run wh pins s σ H Q I (i σ H Q w)⟩
theorem PA.imp {X : Cx} {e : List Expr} {t t' : TA} (h : PA X e t) (i : ∀ σ H Q, t' σ H Q → t σ H Q) : PA X e t' := ⟨fun pos pins s σ H Q I w => h.run pos pins s σ H Q I (i σ H Q w)⟩

section
variable {X : Cx} {G : Sg} {W : WX} {σ : L2.St} {H : Hp} {F : Nat → List Addr} {ρ : Env} {a b c e : Expr} {pos : Pos} {t : T} {fa fb fc : Env → Res D}
/-- an expression ahead of the rest -/
theorem tX_bind {α : Type} {f : Env → Res D} {k : D → Env → Res α} {K : α → Env → Hp → (Nat → List Addr) → List Addr → Prop} {R : VK} (E : EnvOk G σ ρ H F) (g : Go G W σ (bnd (f ρ) k) H F K)
    (r : ∀ v d ρ1 H1 F1, EnvOk G σ ρ1 H1 F1 → Rp G.B H1 (Wof F1 G.O) v d → Go G W σ (k d ρ1) H1 F1 K → Evo H F H1 F1 [] → R v H1) : tX G W .fz f σ H R := by
  refine ⟨F, ρ, E, (Go.bind g).imp fun d ρ1 H1 F1 Fl ⟨v1, _, E1, g1⟩ v o => ?_⟩
  obtain ⟨rfl, o⟩ := Own.fz_inv o
  rw [Sg.add_nil] at E1 o
  exact r v d ρ1 H1 F1 E1 o g1 v1
theorem tO_bind {α : Type} {f : Env → Res Arg} {k : Arg → Env → Res α} {K : α → Env → Hp → (Nat → List Addr) → List Addr → Prop} {R : VK} (E : EnvOk G σ ρ H F) (g : Go G W σ (bnd (f ρ) k) H F K)
    (r : ∀ v d ρ1 H1 F1, EnvOk G σ ρ1 H1 F1 → ArgOk G σ H1 F1 v d → Go G W σ (k d ρ1) H1 F1 K → Evo H F H1 F1 [] → R v H1) : tO G W f σ H R := by
  refine ⟨F, ρ, E, (Go.bind g).imp fun d ρ1 H1 F1 Fl ⟨v1, _, E1, g1⟩ hz v o => ?_⟩
  subst hz
  rw [Sg.add_nil] at E1
  exact r v d ρ1 H1 F1 E1 o g1 v1
theorem tB_bind {α : Type} {f : Env → Res Bool} {k : Bool → Env → Res α} {K : α → Env → Hp → (Nat → List Addr) → List Addr → Prop} {R : Bool → Hp → Prop} (E : EnvOk G σ ρ H F) (g : Go G W σ (bnd (f ρ) k) H F K)
    (r : ∀ d ρ1 H1 F1, EnvOk G σ ρ1 H1 F1 → Go G W σ (k d ρ1) H1 F1 K → Evo H F H1 F1 [] → R d H1) : tB G W f σ H R := by
  refine ⟨F, ρ, E, (Go.bind g).imp fun d ρ1 H1 F1 Fl ⟨v1, _, E1, g1⟩ hz => ?_⟩
  subst hz
  rw [Sg.add_nil] at E1
  exact r d ρ1 H1 F1 E1 g1 v1
theorem tAs_bind {α : Type} {f : Env → Res (List Arg)} {k : List Arg → Env → Res α} {K : α → Env → Hp → (Nat → List Addr) → List Addr → Prop} {R : List V → Hp → Prop} (E : EnvOk G σ ρ H F) (g : Go G W σ (bnd (f ρ) k) H F K)
    (r : ∀ vs as ρ1 H1 F1, EnvOk G σ ρ1 H1 F1 → ArgsOk G σ H1 F1 vs as → Go G W σ (k as ρ1) H1 F1 K → Evo H F H1 F1 [] → R vs H1) : tAs G W f σ H R := by
  refine ⟨F, ρ, E, (Go.bind g).imp fun d ρ1 H1 F1 Fl ⟨v1, _, E1, g1⟩ hz vs o => ?_⟩
  subst hz
  rw [Sg.add_nil] at E1
  exact r vs d ρ1 H1 F1 E1 o g1 v1
theorem Go.done {α : Type} {a : α} {K : α → Env → Hp → (Nat → List Addr) → List Addr → Prop} (g : Go G W σ (.ok a ρ) H F K) (E : EnvOk G σ ρ H F) : K a ρ H F [] :=
  g H F [] Evo.refl FlOk.nil (by rw [Sg.add_nil]; exact E)
theorem Own.there {B : Bs} {H : Hp} {W : Wr} : ∀ {t : T} {v : V} {d : D} {Fl : List Addr}, Own B H W t v d Fl → ∀ a ∈ Fl, ∃ o, H a = some o := by
  intro t v d Fl h
  have key : ∀ n, (∀ (d : D), sizeOf d ≤ n → ∀ {t : T} {v : V} {Fl : List Addr}, Own B H W t v d Fl → ∀ a ∈ Fl, ∃ o, H a = some o) ∧
      (∀ (ds : List D), sizeOf ds ≤ n → ∀ {t : T} {v : List V} {Fl : List Addr}, OwnAll B H W t v ds Fl → ∀ a ∈ Fl, ∃ o, H a = some o) ∧
      (∀ (ds : List (D × D)), sizeOf ds ≤ n → ∀ {t : T} {v : List (Key × V)} {Fl : List Addr}, OwnK B H W t v ds Fl → ∀ a ∈ Fl, ∃ o, H a = some o) ∧
      (∀ (ds : List (D × D)), sizeOf ds ≤ n → ∀ {t : T} {v : List TEnt} {Fl : List Addr}, OwnT B H W t v ds Fl → ∀ a ∈ Fl, ∃ o, H a = some o) := by
    intro n
    induction n with
    | zero =>
      refine ⟨fun d hd => ?_, fun d hd => ?_, fun d hd => ?_, fun d hd => ?_⟩
      · exfalso; cases d <;> simp at hd
      · exfalso; cases d <;> simp at hd
      · exfalso; cases d <;> simp at hd
      · exfalso; cases d <;> simp at hd
    | succ n ih =>
      obtain ⟨i1, i2, i3, i4⟩ := ih
      refine ⟨fun d hd t v Fl h a ha => ?_, fun d hd t v Fl h a ha => ?_, fun d hd t v Fl h a ha => ?_, fun d hd t v Fl h a ha => ?_⟩
      · cases h with
        | fz _ => cases ha
        | imm _ _ => cases ha
        | lst e l q =>
          rcases List.mem_cons.mp ha with rfl | ha
          · exact ⟨_, e⟩
          · exact i2 _ (by simp at hd; omega) q a ha
        | dK e l q =>
          rcases List.mem_cons.mp ha with rfl | ha
          · exact ⟨_, e⟩
          · exact i3 _ (by simp at hd; omega) q a ha
        | dT e l q =>
          rcases List.mem_cons.mp ha with rfl | ha
          · exact ⟨_, e⟩
          · exact i4 _ (by simp at hd; omega) q a ha
      · cases h with
        | nil => cases ha
        | cons x y =>
          rcases List.mem_append.mp ha with ha | ha
          · exact i1 _ (by simp at hd; omega) x a ha
          · exact i2 _ (by simp at hd; omega) y a ha
      · cases h with
        | nil => cases ha
        | cons x y =>
          rcases List.mem_append.mp ha with ha | ha
          · exact i1 _ (by simp at hd; omega) x a ha
          · exact i3 _ (by simp at hd; omega) y a ha
      · cases h with
        | nil => cases ha
        | cons e1 e2 e3 x y =>
          rcases List.mem_append.mp ha with ha | ha
          · exact i1 _ (by simp at hd; omega) x a ha
          · exact i4 _ (by simp at hd; omega) y a ha
  exact (key (sizeOf d)).1 d (Nat.le_refl _) h
/-- new things, owned by none of the slots -/
theorem EnvOk.news {H' : Hp} {Fl : List Addr} (E : EnvOk G σ ρ H F) (hn : ∀ a ∈ Fl, H a = none) (k : Ext H H') (hp' : ∀ a ∈ Fl, ∃ o, H' a = some o) : EnvOk (G.add Fl) σ ρ H' F where
  len := E.len
  slot := fun i d e => by
    obtain ⟨v, h1, h2⟩ := E.slot i d e
    refine ⟨v, h1, Own.keep (fun a q => ?_) d (fun a o e _ => k a o e) h2⟩
    rcases q with q | q | q
    · exact .inl (.inl q)
    · exact .inl (.inr q)
    · exact .inr (hn a q)
  nd := E.nd
  dj := E.dj
  og := fun i a h q => by
    rcases q with q | q
    · exact E.og i a h q
    · obtain ⟨o, e⟩ := E.hv i a h
      rw [hn a q] at e
      cases e
  hv := fun i a h => let ⟨o, e⟩ := E.hv i a h; ⟨o, k _ _ e⟩
  oh := fun a h => by
    rcases h with h | h
    · obtain ⟨o, e⟩ := E.oh a h
      exact ⟨o, k _ _ e⟩
    · exact hp' a h
  pn := E.pn
  ff := E.ff
theorem Evo.news {H' : Hp} {Fl : List Addr} (k : Ext H H') (hn : ∀ a ∈ Fl, H a = none) : Evo H F H' F Fl := ⟨fun a o e _ => k a o e, fun a z => z.imp id (hn a)⟩
theorem Wof_add {O : Wr} {Fl : List Addr} : (fun a => Wof F O a ∨ a ∈ Fl) = Wof F (fun a => O a ∨ a ∈ Fl) := by
  funext a
  unfold Wof
  exact propext or_assoc
/-- the end of a value that was reckoned -/
theorem Go.fin {H' : Hp} {Fl : List Addr} {d : D} {v : V} {K : D → Env → Hp → (Nat → List Addr) → List Addr → Prop} (g : Go G W σ (.ok d ρ) H F K) (E : EnvOk G σ ρ H F) (k : Ext H H') (hn : ∀ a ∈ Fl, H a = none) (nd : Fl.Nodup)
    (o : Own G.B H' (fun a => Wof F G.O a ∨ a ∈ Fl) t v d Fl) : K d ρ H' F Fl ∧ Own G.B H' (Wof F (G.add Fl).O) t v d Fl := by
  rw [Wof_add] at o
  refine ⟨g H' F Fl (Evo.news k hn) ⟨nd, fun a ha q => ?_⟩ (E.news hn k (Own.there o)), o⟩
  obtain ⟨x, e⟩ := E.oh a q
  rw [hn a ha] at e
  cases e
theorem there_W (E : EnvOk G σ ρ H F) : ∀ a, Wof F G.O a → ∃ o, H a = some o := fun a z => by
  rcases z with ⟨i, hi⟩ | z
  · exact E.hv i a hi
  · exact E.oh a z

/-! ### owned, frozen, looked at -/
/-- a new thing, frozen -/
theorem dx_frz {f : Env → Res D} (h : DX X G W t e f) : DX X G W .fz e f := PE.imp h fun σ H Q ⟨F, ρ, E, g⟩ => by
  refine ⟨F, ρ, E, ?_⟩
  cases q : f ρ with
  | err => rw [q] at g; exact g
  | exc c ρ' => rw [q] at g; exact g
  | ok d ρ' =>
    rw [q] at g
    intro H' F' Fl v1 fo E1 v o
    have E2 := E1.drop
    refine g H' F' [] v1.drop FlOk.nil (by rw [Sg.add_nil]; exact E2) v ?_
    rw [Sg.add_nil]
    refine .fz (Own.rp (fun a z => z.imp id .inl) d (fun a ha z => ?_) o)
    rcases z with ⟨i, hi⟩ | z
    · exact E1.og i a hi (.inr ha)
    · exact fo.2 a ha z
def oVal (f : Env → Res D) : Env → Res Arg := fun ρ => bnd (f ρ) fun d ρ1 => .ok (.val d) ρ1
def oSlot (j : Nat) : Env → Res Arg := fun ρ => match slotD ρ j with
  | some _ => .ok (.io j) ρ
  | none => .err
def oLend (j : Nat) : Env → Res Arg := fun ρ => match slotD ρ j with
  | some _ => .ok (.lnd j) ρ
  | none => .err
theorem do_val {f : Env → Res D} (h : DX X G W .fz e f) : DO X G W e (oVal f) := PE.imp h fun σ H Q ⟨F, ρ, E, g⟩ =>
  tX_bind E g fun v d ρ1 H1 F1 E1 r g1 _ => Go.done g1 E1 rfl v r
end
end PD

set_option Elab.async false
set_option linter.all false
set_option maxRecDepth 100000
set_option maxHeartbeats 4000000
/-! PDd: generic rules of expressions. -/
namespace PD
open PySem PySem.Spec PyProof.Rows L2

/-! ### what the pieces are worth -/
def eVar (i : Nat) : Env → Res D := fun ρ => ofO (slotD ρ i) ρ
def eMov (i : Nat) : Env → Res D := fun ρ => match slotD ρ i with
  | some d => .ok d (ρ.set i none)
  | none => .err
def eC (d : D) : Env → Res D := fun ρ => .ok d ρ
def aNil : Env → Res (List Arg) := fun ρ => .ok [] ρ
def aCons (f : Env → Res Arg) (g : Env → Res (List Arg)) : Env → Res (List Arg) := fun ρ => bnd (f ρ) fun a ρ1 => bnd (g ρ1) fun as ρ2 => .ok (a :: as) ρ2
def valsOf : List Arg → Option (List D)
  | [] => some []
  | .val d :: as => (valsOf as).map fun ds => d :: ds
  | _ :: _ => none
def eTup (f : Env → Res (List Arg)) : Env → Res D := fun ρ => bnd (f ρ) fun as ρ1 => match valsOf as with
  | some ds => if ds.length ≤ lim then .ok (.tuple ds) ρ1 else .err
  | none => .err
def eLst (f : Env → Res (List Arg)) : Env → Res D := fun ρ => bnd (f ρ) fun as ρ1 => match valsOf as with
  | some ds => if ds.length ≤ lim then .ok (.list ds) ρ1 else .err
  | none => .err
def op2 (g : D → D → Option D) (ρ : Env) (a b : Arg) : Res D := match deref ρ a with
  | some x => match deref ρ b with
    | some y => ofO (g x y) ρ
    | none => .err
  | none => .err
def eOp2 (g : D → D → Option D) (fa fb : Env → Res Arg) : Env → Res D := fun ρ => bnd (fa ρ) fun a ρ1 => bnd (fb ρ1) fun b ρ2 => op2 g ρ2 a b
def eOp1 (g : D → Option D) (fa : Env → Res Arg) : Env → Res D := fun ρ => bnd (fa ρ) fun a ρ1 => match deref ρ1 a with
  | some x => ofO (g x) ρ1
  | none => .err
def eOpN (g : List D → Option D) (f : Env → Res (List Arg)) : Env → Res D := fun ρ => bnd (f ρ) fun as ρ1 => match derefs ρ1 as with
  | some ds => ofO (g ds) ρ1
  | none => .err
def eMt (g : D → List D → Option D) (fo : Env → Res Arg) (f : Env → Res (List Arg)) : Env → Res D := fun ρ => bnd (fo ρ) fun a ρ1 => bnd (f ρ1) fun as ρ2 => match deref ρ2 a with
  | some x => match derefs ρ2 as with
    | some ds => ofO (g x ds) ρ2
    | none => .err
  | none => .err
def boolD : D → Option Bool
  | .bool b => some b
  | _ => none
def bOf (f : Env → Res D) : Env → Res Bool := fun ρ => bnd (f ρ) fun d ρ1 => ofO (boolD d) ρ1
def eAnd (fa fb : Env → Res D) : Env → Res D := fun ρ => bnd (fa ρ) fun d ρ1 => match d with
  | .bool true => fb ρ1
  | .bool false => .ok (.bool false) ρ1
  | _ => .err
def eOr (fa fb : Env → Res D) : Env → Res D := fun ρ => bnd (fa ρ) fun d ρ1 => match d with
  | .bool true => .ok (.bool true) ρ1
  | .bool false => fb ρ1
  | _ => .err
def eNot (fa : Env → Res D) : Env → Res D := fun ρ => bnd (fa ρ) fun d ρ1 => match d with
  | .bool b => .ok (.bool !b) ρ1
  | _ => .err
def bAnd (fa fb : Env → Res Bool) : Env → Res Bool := fun ρ => bnd (fa ρ) fun b ρ1 => if b = true then fb ρ1 else .ok false ρ1
def bOr (fa fb : Env → Res Bool) : Env → Res Bool := fun ρ => bnd (fa ρ) fun b ρ1 => if b = true then .ok true ρ1 else fb ρ1
def bNot (fa : Env → Res Bool) : Env → Res Bool := fun ρ => bnd (fa ρ) fun b ρ1 => .ok (!b) ρ1
def eIf (fc : Env → Res Bool) (fa fb : Env → Res D) : Env → Res D := fun ρ => bnd (fc ρ) fun b ρ1 => if b = true then fa ρ1 else fb ρ1
def eChain (g g' : D → D → Option D) (fa fb fc : Env → Res Arg) : Env → Res D := fun ρ => bnd (fa ρ) fun a ρ1 => bnd (fb ρ1) fun b ρ2 => bnd (op2 g ρ2 a b) fun d ρ3 => match d with
  | .bool true => bnd (fc ρ3) fun c ρ4 => op2 g' ρ4 b c
  | .bool false => .ok (.bool false) ρ3
  | _ => .err
def pNone : Env → Res (Option Int) := fun ρ => .ok none ρ
def pSome (f : Env → Res D) : Env → Res (Option Int) := fun ρ => bnd (f ρ) fun d ρ1 => match d with
  | .int i => .ok (some i) ρ1
  | _ => .err
def eSl (g : D → Option Int → Option Int → Option D) (fo : Env → Res Arg) (fl fu : Env → Res (Option Int)) : Env → Res D := fun ρ => bnd (fo ρ) fun a ρ1 => bnd (fl ρ1) fun l ρ2 => bnd (fu ρ2) fun u ρ3 => match deref ρ3 a with
  | some x => ofO (g x l u) ρ3
  | none => .err

/-! ### values in, a value out -/
def VOut (B : Bs) (H : Hp) (W : Wr) (t : T) (z : D) (Q : VK) : Prop := ∀ v H' Fl, Ext H H' → (∀ a ∈ Fl, H a = none) → Fl.Nodup → Own B H' (fun a => W a ∨ a ∈ Fl) t v z Fl → Q v H'
def PV1 (B : Bs) (r : V → Hp → VK → Prop) (t : T) (g : D → Option D) : Prop := ∀ x d H (W : Wr) (Q : VK) z, Rq B H W x d → g d = some z → (∀ a, W a → ∃ o, H a = some o) → VOut B H W t z Q → r x H Q
def PV2 (B : Bs) (r : R2) (t : T) (g : D → D → Option D) : Prop := ∀ x y d e H (W : Wr) (Q : VK) z, Rq B H W x d → Rq B H W y e → g d e = some z → (∀ a, W a → ∃ o, H a = some o) → VOut B H W t z Q → r x y H Q
def PVn (B : Bs) (r : List V → Hp → VK → Prop) (t : T) (g : List D → Option D) : Prop := ∀ xs ds H (W : Wr) (Q : VK) z, RqAll B H W xs ds → g ds = some z → (∀ a, W a → ∃ o, H a = some o) → VOut B H W t z Q → r xs H Q
def PVm (B : Bs) (r : V → List V → Hp → VK → Prop) (t : T) (g : D → List D → Option D) : Prop := ∀ x xs d ds H (W : Wr) (Q : VK) z, Rq B H W x d → RqAll B H W xs ds → g d ds = some z → (∀ a, W a → ∃ o, H a = some o) → VOut B H W t z Q → r x xs H Q
def PVs (B : Bs) (r : V → Option Int → Option Int → Hp → VK → Prop) (t : T) (g : D → Option Int → Option Int → Option D) : Prop := ∀ x d l u H (W : Wr) (Q : VK) z, Rq B H W x d → g d l u = some z → (∀ a, W a → ∃ o, H a = some o) → VOut B H W t z Q → r x l u H Q
theorem VOut.same {B : Bs} {H : Hp} {W : Wr} {t : T} {z : D} {Q : VK} {v : V} (h : VOut B H W t z Q) (o : Own B H W t v z []) : Q v H := h v H [] (fun _ _ e => e) (fun _ q => nomatch q) List.nodup_nil (by simpa using o)
theorem VOut.new {B : Bs} {H : Hp} {W : Wr} {t : T} {z : D} {Q : VK} {p : Addr} {o : HO} (h : VOut B H W t z Q) (hp : H p = none) (ho : Own B (upd H p o) (fun a => W a ∨ a ∈ [p]) t (.ref p) z [p]) : Q (.ref p) (upd H p o) :=
  h (.ref p) _ [p] (fun a u e => by rw [upd_ne (ne_of_none e hp)]; exact e) (fun a q => by rw [List.mem_singleton.mp q]; exact hp) (by simp) ho
theorem ext_upd {H : Hp} {p : Addr} {o : HO} (hp : H p = none) : Ext H (upd H p o) := fun a u e => by rw [upd_ne (ne_of_none e hp)]; exact e
theorem RpAll.into {B : Bs} {H : Hp} {W : Wr} {p : Addr} {o : HO} {vs : List V} {ds : List D} (h : RpAll B H W vs ds) (hp : H p = none) : RpAll B (upd H p o) (fun a => W a ∨ a ∈ [p]) vs ds :=
  RpAll.keep (fun a u e _ => ext_upd hp a u e) (fun a q => q.imp id fun q => by rw [List.mem_singleton.mp q]; exact hp) ds h
/-- a new list of frozen things -/
theorem VOut.lst {B : Bs} {H : Hp} {W : Wr} {ds : List D} {xs : List V} {Q : VK} {p : Addr} (h : VOut B H W (.lst .fz) (.list ds) Q) (hp : H p = none) (r : RpAll B H W xs ds) (l : ds.length ≤ lim) : Q (.ref p) (upd H p (.lst xs)) :=
  h.new hp (Own.lst_of upd_same l (r.into hp))
/-- a new tuple -/
theorem VOut.tup {B : Bs} {H : Hp} {W : Wr} {ds : List D} {xs : List V} {Q : VK} {p : Addr} (h : VOut B H W .fz (.tuple ds) Q) (hp : H p = none) (r : RpAll B H W xs ds) (l : ds.length ≤ lim) (hW : ∀ a, W a → ∃ o, H a = some o) : Q (.ref p) (upd H p (.tup xs)) :=
  h (.ref p) _ [] (ext_upd hp) (fun a q => nomatch q) List.nodup_nil (.fz (.tup (.inl upd_same) (fun q => by
    rcases q with q | q
    · obtain ⟨o, e⟩ := hW p q
      rw [hp] at e; cases e
    · cases q) l (RpAll.keep (fun a u e _ => ext_upd hp a u e) (fun a q => .inl (q.elim id fun q => nomatch q)) ds r)))

section
variable {X : Cx} {G : Sg} {W : WX} {a b c e : Expr} {es rest : List Expr} {pos : Pos} {t : T} {f g h : Env → Res D} {fa fb fc : Env → Res Arg} {fs : Env → Res (List Arg)} {x : Str} {i j : Nat}

theorem dx_var (hN : X.N[i]? = some x) (hv : Vis X.env.scope x) (hf : G.Γ i = .fz) (hd : (x == ("__debug__" : Str)) = false := by decide) (hcd : (x == ("__classdict__" : Str)) = false := by decide) : DX X G W .fz (.Name x pos) (eVar i) :=
  PE.imp (pe_var hN hv hd hcd) fun σ H Q ⟨F, ρ, E, g⟩ => by
    unfold eVar at g
    cases q : slotD ρ i with
    | none => rw [q] at g; exact g.elim
    | some d =>
      rw [q] at g
      obtain ⟨v, h1, h2⟩ := E.slot i d (slotD_some q)
      rw [hf] at h2
      obtain ⟨_, r⟩ := Own.fz_inv h2
      refine ⟨v, h1, Go.done g E v ?_⟩
      rw [Sg.add_nil]
      exact .fz r
theorem dx_mov (hN : X.N[i]? = some x) (hv : Vis X.env.scope x) (hp : G.pin i = none) (hd : (x == ("__debug__" : Str)) = false := by decide) (hcd : (x == ("__classdict__" : Str)) = false := by decide) : DX X G W (G.Γ i) (.Name x pos) (eMov i) :=
  PE.imp (pe_var hN hv hd hcd) fun σ H Q ⟨F, ρ, E, g⟩ => by
    unfold eMov at g
    cases q : slotD ρ i with
    | none => rw [q] at g; exact g.elim
    | some d =>
      rw [q] at g
      obtain ⟨v, h1, h2⟩ := E.slot i d (slotD_some q)
      have sub : Wof (updF F i []) (fun a => G.O a ∨ a ∈ F i) = Wof F G.O := by
        funext a
        apply propext
        constructor
        · rintro (⟨j, hj⟩ | hj | hj)
          · by_cases e : j = i
            · subst e; rw [updF_same] at hj; cases hj
            · rw [updF_ne e] at hj; exact .inl ⟨j, hj⟩
          · exact .inr hj
          · exact .inl ⟨i, hj⟩
        · rintro (⟨j, hj⟩ | hj)
          · by_cases e : j = i
            · subst e; exact .inr (.inr hj)
            · exact .inl ⟨j, by rw [updF_ne e]; exact hj⟩
          · exact .inr (.inl hj)
      refine ⟨v, h1, g H (updF F i []) (F i) ⟨fun _ _ e _ => e, fun a z => .inl ?_⟩ ⟨E.nd i, E.og i⟩ ?_ v ?_⟩
      · rcases z with ⟨j, hj⟩ | z
        · by_cases e : j = i
          · subst e; rw [updF_same] at hj; cases hj
          · rw [updF_ne e] at hj; exact ⟨j, hj⟩
        · exact ⟨i, z⟩
      · refine ⟨by simpa using E.len, fun j d' e => ?_, fun j => ?_, fun j k a h1 h2 => ?_, fun j a h q => ?_, fun j a h => ?_, fun a q => ?_, E.pn, fun j hj => ?_⟩
        · rcases get_set_some e with ⟨_, e1, _⟩ | ⟨ne, e⟩
          · cases e1
          · obtain ⟨u, k1, k2⟩ := E.slot j d' e
            refine ⟨u, k1, ?_⟩
            show Own G.B H (Wof (updF F i []) (fun a => G.O a ∨ a ∈ F i)) (G.Γ j) u d' (updF F i [] j)
            rw [sub, updF_ne ne]
            exact k2
        · by_cases e : j = i
          · subst e; rw [updF_same]; exact List.nodup_nil
          · rw [updF_ne e]; exact E.nd j
        · by_cases e1 : j = i
          · subst e1; rw [updF_same] at h1; cases h1
          · by_cases e2 : k = i
            · subst e2; rw [updF_same] at h2; cases h2
            · rw [updF_ne e1] at h1; rw [updF_ne e2] at h2; exact E.dj j k a h1 h2
        · by_cases e : j = i
          · subst e; rw [updF_same] at h; cases h
          · rw [updF_ne e] at h
            rcases q with q | q
            · exact E.og j a h q
            · exact e (E.dj j i a h q)
        · by_cases e : j = i
          · subst e; rw [updF_same] at h; cases h
          · rw [updF_ne e] at h; exact E.hv j a h
        · rcases q with q | q
          · exact E.oh a q
          · exact E.hv i a q
        · by_cases e : j = i
          · subst e; rw [updF_same]
          · rw [updF_ne e]; exact E.ff j hj
      · show Own G.B H (Wof (updF F i []) (fun a => G.O a ∨ a ∈ F i)) (G.Γ i) v d (F i)
        rw [sub]
        exact h2
theorem do_slot (hN : X.N[i]? = some x) (hv : Vis X.env.scope x) (hf : plainT (G.Γ i) = true) (hd : (x == ("__debug__" : Str)) = false := by decide) (hcd : (x == ("__classdict__" : Str)) = false := by decide) : DO X G W (.Name x pos) (oSlot i) :=
  PE.imp (pe_var hN hv hd hcd) fun σ H Q ⟨F, ρ, E, g⟩ => by
    unfold oSlot at g
    cases q : slotD ρ i with
    | none => rw [q] at g; exact g.elim
    | some d =>
      rw [q] at g
      obtain ⟨v, h1, h2⟩ := E.slot i d (slotD_some q)
      exact ⟨v, h1, Go.done g E rfl v ⟨h1, hf⟩⟩
theorem do_lend (hN : X.N[i]? = some x) (hv : Vis X.env.scope x) (hd : (x == ("__debug__" : Str)) = false := by decide) (hcd : (x == ("__classdict__" : Str)) = false := by decide) : DO X G W (.Name x pos) (oLend i) :=
  PE.imp (pe_var hN hv hd hcd) fun σ H Q ⟨F, ρ, E, g⟩ => by
    unfold oLend at g
    cases q : slotD ρ i with
    | none => rw [q] at g; exact g.elim
    | some d =>
      rw [q] at g
      obtain ⟨v, h1, h2⟩ := E.slot i d (slotD_some q)
      exact ⟨v, h1, Go.done g E rfl v h1⟩
/-- a thing without a heap -/
theorem dx_const {v : V} {d : D} (he : PE X e (tC v)) (r : ∀ B H W, Rp B H W v d) : DX X G W .fz e (eC d) := PE.imp he fun σ H Q ⟨F, ρ, E, g⟩ => Go.done g E v (.fz (r _ _ _))
theorem dx_int {i : Int} {k} : DX X G W .fz (.Constant (.int i) k pos) (eC (.int i)) := dx_const pe_int fun _ _ _ => .int i
theorem dx_bl {i : Bool} {k} : DX X G W .fz (.Constant (.bool i) k pos) (eC (.bool i)) := dx_const pe_bl fun _ _ _ => .bl i
theorem dx_non {k} : DX X G W .fz (.Constant .none k pos) (eC .none) := dx_const pe_non fun _ _ _ => .non
theorem dx_str {z : Str} {k} (h : z.length ≤ lim := by decide) : DX X G W .fz (.Constant (.str z) k pos) (eC (.str z)) := dx_const pe_str fun _ _ _ => .str h
theorem dx_globI {u : Int} {tk : Tok} (hg : Gl X x) (hm : X.mg x = some (.int u tk)) (hd : (x == ("__debug__" : Str)) = false := by decide) : DX X G W .fz (.Name x pos) (eC (.int u)) := dx_const (pe_glob (v := .int u) hg hm ⟨_, rfl⟩ hd) fun _ _ _ => .int u
theorem dx_globS {u : Str} {tk : Tok} (hg : Gl X x) (hm : X.mg x = some (.str u tk)) (hl : u.length ≤ lim) (hd : (x == ("__debug__" : Str)) = false := by decide) : DX X G W .fz (.Name x pos) (eC (.str u)) := dx_const (pe_glob (v := .str u) hg hm ⟨_, rfl⟩ hd) fun _ _ _ => .str hl
theorem da_nil : DA X G W [] aNil := PA.imp pa_nil fun σ H Q ⟨F, ρ, E, g⟩ => Go.done g E rfl [] .nil
theorem da_cons (ha : DO X G W e fa) (hr : DA X G W es fs) (hs : starEach (e :: es) X.env = (false, eval e X.env) :: starEach es X.env := by rfl) : DA X G W (e :: es) (aCons fa fs) := PA.imp (pa_cons ha hr hs) fun σ H Q ⟨F, ρ, E, g⟩ =>
  tO_bind E g fun v a ρ1 H1 F1 E1 o g1 _ => tAs_bind E1 g1 fun vs as ρ2 H2 F2 E2 os g2 v2 => Go.done g2 E2 rfl (v :: vs) (.cons (o.evo v2) os)
theorem ArgsOk.vals {σ : L2.St} {H : Hp} {F : Nat → List Addr} : ∀ {vs : List V} {as : List Arg} {ds : List D}, ArgsOk G σ H F vs as → valsOf as = some ds → RpAll G.B H (Wof F G.O) vs ds
  | _, [], _, h, e => by
    cases h
    have e : some [] = some _ := e
    cases e
    exact .nil
  | _, .val d :: as, _, h, e => by
    cases h with
    | cons h1 h2 =>
      unfold valsOf at e
      cases q : valsOf as with
      | none => rw [q] at e; cases e
      | some es =>
        rw [q] at e
        cases e
        exact .cons h1 (h2.vals q)
  | _, .io _ :: _, _, _, e => by cases e
  | _, .lnd _ :: _, _, _, e => by cases e
theorem dx_tup {k} (ha : DA X G W es fs) : DX X G W .fz (.Tuple es k pos) (eTup fs) := PE.imp (pe_tup ha) fun σ H Q ⟨F, ρ, E, g⟩ => tAs_bind E g fun vs as ρ1 H1 F1 E1 os g1 _ => by
  cases q : valsOf as with
  | none => rw [q] at g1; exact g1.elim
  | some ds =>
    simp only [q] at g1
    by_cases hl : ds.length ≤ lim
    · rw [if_pos hl] at g1
      have r := os.vals q
      refine ⟨by rw [r.length]; exact lim_size hl, fun p hp => ?_⟩
      refine VOut.tup (B := G.B) (W := Wof F1 G.O) (ds := ds) (fun v H' Fl k hn nd o => ?_) hp r hl (there_W E1)
      obtain ⟨h3, o'⟩ := g1.fin E1 k hn nd o
      exact h3 v o'
    · rw [if_neg hl] at g1; exact g1.elim
theorem dx_lst (ha : DA X G W es fs) : DX X G W (.lst .fz) (.List es pos) (eLst fs) := PE.imp (pe_lst ha) fun σ H Q ⟨F, ρ, E, g⟩ => tAs_bind E g fun vs as ρ1 H1 F1 E1 os g1 _ => by
  cases q : valsOf as with
  | none => rw [q] at g1; exact g1.elim
  | some ds =>
    simp only [q] at g1
    by_cases hl : ds.length ≤ lim
    · rw [if_pos hl] at g1
      have r := os.vals q
      refine ⟨by rw [r.length]; exact lim_size hl, fun p hp => ?_⟩
      refine VOut.lst (B := G.B) (W := Wof F1 G.O) (ds := ds) (fun v H' Fl k hn nd o => ?_) hp r hl
      obtain ⟨h3, o'⟩ := g1.fin E1 k hn nd o
      exact h3 v o'
    · rw [if_neg hl] at g1; exact g1.elim
/-- the end of an operation of two operands -/
theorem op2_end {r : R2} {gg : D → D → Option D} {σ : L2.St} {H2 : Hp} {F2 : Nat → List Addr} {ρ2 : Env} {x y : V} {a1 b1 : Arg} {Q : VK} (pv : PV2 G.B r t gg) (E2 : EnvOk G σ ρ2 H2 F2) (o1 : ArgOk G σ H2 F2 x a1) (o2 : ArgOk G σ H2 F2 y b1)
    {K : D → Env → Hp → (Nat → List Addr) → List Addr → Prop} (g2 : Go G W σ (op2 gg ρ2 a1 b1) H2 F2 K) (hK : ∀ d H' F' Fl v, Ext H2 H' → K d ρ2 H' F' Fl → Own G.B H' (Wof F' (G.add Fl).O) t v d Fl → EnvOk (G.add Fl) σ ρ2 H' F' → F' = F2 → Q v H') : r x y H2 Q := by
  unfold op2 at g2
  cases e1 : deref ρ2 a1 with
  | none => rw [e1] at g2; exact g2.elim
  | some d1 =>
    rw [e1] at g2
    cases e2 : deref ρ2 b1 with
    | none => rw [e2] at g2; exact g2.elim
    | some d2 =>
      simp only [e2] at g2
      cases e3 : gg d1 d2 with
      | none => rw [e3] at g2; exact g2.elim
      | some z =>
        rw [e3] at g2
        refine pv x y d1 d2 H2 (Wof F2 G.O) Q z (o1.rq E2 e1) (o2.rq E2 e2) e3 (there_W E2) fun v H' Fl k hn nd o => ?_
        obtain ⟨h3, o'⟩ := Go.fin (G := G) (W := W) (K := K) g2 E2 k hn nd o
        exact hK z H' F2 Fl v k h3 o' (E2.news hn k (Own.there o)) rfl
theorem dx_bin {op : Operator} {r : R2} {gg : D → D → Option D} (ho : OpR X (binaryOp op) r) (pv : PV2 G.B r t gg) (ha : DO X G W a fa) (hb : DO X G W b fb) : DX X G W t (.BinOp a op b pos) (eOp2 gg fa fb) :=
  PE.imp (pe_op ho ha hb) fun σ H Q ⟨F, ρ, E, g⟩ => tO_bind E g fun x a1 ρ1 H1 F1 E1 o1 g1 _ => tO_bind E1 g1 fun y b1 ρ2 H2 F2 E2 o2 g2 v2 => op2_end pv E2 (o1.evo v2) o2 g2 fun d H' F' Fl v _ k o _ _ => k v o
theorem dx_cmp {op : CmpOp} {r : R2} {gg : D → D → Option D} (ho : OpR X (compareOp op) r) (pv : PV2 G.B r t gg) (ha : DO X G W a fa) (hb : DO X G W b fb) (hm : behindInMarks op b = false) : DX X G W t (.Compare a [op] [b] pos) (eOp2 gg fa fb) :=
  PE.imp (pe_cmpR ho ha hb hm) fun σ H Q ⟨F, ρ, E, g⟩ => tO_bind E g fun x a1 ρ1 H1 F1 E1 o1 g1 _ => tO_bind E1 g1 fun y b1 ρ2 H2 F2 E2 o2 g2 v2 => op2_end pv E2 (o1.evo v2) o2 g2 fun d H' F' Fl v _ k o _ _ => k v o
theorem dx_ix {r : R2} {gg : D → D → Option D} (hr : IxR X r) (pv : PV2 G.B r t gg) (ha : DO X G W a fa) (hb : DO X G W b fb) (hs : PlainIx b) : DX X G W t (.Subscript a b pos) (eOp2 gg fa fb) :=
  PE.imp (pe_ix hr ha hb hs) fun σ H Q ⟨F, ρ, E, g⟩ => tO_bind E g fun x a1 ρ1 H1 F1 E1 o1 g1 _ => tO_bind E1 g1 fun y b1 ρ2 H2 F2 E2 o2 g2 v2 => op2_end pv E2 (o1.evo v2) o2 g2 fun d H' F' Fl v _ k o _ _ => k v o
theorem own_bool {B : Bs} {H : Hp} {W : Wr} {v : V} {k : Bool} {Fl : List Addr} (o : Own B H W t v (.bool k) Fl) : v = .bl k := by
  cases o with
  | fz r => cases r; rfl
  | imm _ r => cases r; rfl
/-- a comparison as a test -/
theorem dt_cmp {op : CmpOp} {r : R2} {gg : D → D → Option D} (ho : OpR X (compareOp op) r) (pv : PV2 G.B r .fz gg) (ha : DO X G W a fa) (hb : DO X G W b fb) (hm : behindInMarks op b = false) : DT X G W (.Compare a [op] [b] pos) (bOf (eOp2 gg fa fb)) :=
  PT.imp (pt_cmpR ho ha hb hm) fun σ H Q ⟨F, ρ, E, g⟩ => by
    unfold bOf eOp2 at g
    have g' : Go G W σ (bnd (fa ρ) fun a ρ1 => bnd (fb ρ1) fun b ρ2 => bnd (op2 gg ρ2 a b) fun d ρ3 => ofO (boolD d) ρ3) H F (fun b _ H' _ Fl => Fl = [] → Q b H') := by
      cases q1 : fa ρ with
      | err => rw [q1] at g; exact g
      | exc _ _ => rw [q1] at g; exact g
      | ok a1 ρ1 =>
        rw [q1] at g
        simp only [bnd_ok] at g ⊢
        cases q2 : fb ρ1 with
        | err => rw [q2] at g; exact g
        | exc _ _ => rw [q2] at g; exact g
        | ok b1 ρ2 => rw [q2] at g; exact g
    exact tO_bind E g' fun x a1 ρ1 H1 F1 E1 o1 g1 _ => tO_bind E1 g1 fun y b1 ρ2 H2 F2 E2 o2 g2 v2 => op2_end pv E2 (o1.evo v2) o2 (Go.bind g2) fun d H' F' Fl v _ k o E3 _ => by
      obtain ⟨v3, fo, E4, g3⟩ := k
      obtain ⟨rfl, _⟩ := Own.fz_inv o
      cases d with
      | bool q =>
        rw [own_bool o]
        rw [Sg.add_nil] at E4
        exact ⟨q, rfl, Go.done g3 E4 rfl⟩
      | _ => exact g3.elim
/-- a value that is a truth value, as a test -/
theorem dt_val {f : Env → Res D} (he : DX X G W .fz e f) (hw : ∀ whole, isTrue e X.env whole = (do let v ← whole; standAt e.pos; holding [v] (truthy v)) := by intro _; rfl) : DT X G W e (bOf f) :=
  PT.imp (pt_val he hw) fun σ H Q ⟨F, ρ, E, g⟩ => tX_bind E g fun v d ρ1 H1 F1 E1 r g1 _ => by
    cases d with
    | bool q =>
      cases r
      exact ⟨q, rfl, Go.done g1 E1 rfl⟩
    | _ => exact g1.elim
variable {ba bb : Env → Res Bool}
theorem dw_and1 (ha : DT X G W a ba) : DW X G W (.BoolOp .And [a] pos) ba := pw_and1 ha
theorem dw_or1 (ha : DT X G W a ba) : DW X G W (.BoolOp .Or [a] pos) ba := pw_or1 ha
theorem dw_and (ha : DT X G W a ba) (hb : DW X G W (.BoolOp .And (b :: rest) pos) bb) : DW X G W (.BoolOp .And (a :: b :: rest) pos) (bAnd ba bb) :=
  PW.imp (pw_and ha hb) fun σ H Q ⟨F, ρ, E, g⟩ => tB_bind E g fun d ρ1 H1 F1 E1 g1 _ => by
    cases d with
    | true => exact ⟨F1, ρ1, E1, g1⟩
    | false => exact Go.done g1 E1 rfl
theorem dw_or (ha : DT X G W a ba) (hb : DW X G W (.BoolOp .Or (b :: rest) pos) bb) : DW X G W (.BoolOp .Or (a :: b :: rest) pos) (bOr ba bb) :=
  PW.imp (pw_or ha hb) fun σ H Q ⟨F, ρ, E, g⟩ => tB_bind E g fun d ρ1 H1 F1 E1 g1 _ => by
    cases d with
    | true => exact Go.done g1 E1 rfl
    | false => exact ⟨F1, ρ1, E1, g1⟩
theorem dt_w (h : DW X G W e ba) : DT X G W e ba := h.pt
theorem dt_not (ha : DT X G W a ba) : DT X G W (.UnaryOp .Not a pos) (bNot ba) := PT.imp (pt_not ha) fun σ H Q ⟨F, ρ, E, g⟩ => tB_bind E g fun d ρ1 H1 F1 E1 g1 _ => Go.done g1 E1 rfl
theorem dx_one {op} (ha : DX X G W .fz a f) : DX X G W .fz (.BoolOp op [a] pos) f := pe_one ha
theorem dx_and (ha : DX X G W .fz a f) (hb : DX X G W .fz (.BoolOp .And (b :: rest) pos) g) : DX X G W .fz (.BoolOp .And (a :: b :: rest) pos) (eAnd f g) :=
  PE.imp (pe_and ha hb) fun σ H Q ⟨F, ρ, E, g⟩ => tX_bind E g fun v d ρ1 H1 F1 E1 r g1 _ => by
    cases d with
    | bool q =>
      cases r
      refine ⟨q, rfl, ?_⟩
      cases q with
      | true => exact ⟨F1, ρ1, E1, g1⟩
      | false => exact Go.done g1 E1 _ (.fz (.bl _))
    | _ => exact g1.elim
theorem dx_or (ha : DX X G W .fz a f) (hb : DX X G W .fz (.BoolOp .Or (b :: rest) pos) g) : DX X G W .fz (.BoolOp .Or (a :: b :: rest) pos) (eOr f g) :=
  PE.imp (pe_or ha hb) fun σ H Q ⟨F, ρ, E, g⟩ => tX_bind E g fun v d ρ1 H1 F1 E1 r g1 _ => by
    cases d with
    | bool q =>
      cases r
      refine ⟨q, rfl, ?_⟩
      cases q with
      | true => exact Go.done g1 E1 _ (.fz (.bl _))
      | false => exact ⟨F1, ρ1, E1, g1⟩
    | _ => exact g1.elim
theorem dx_not (ha : DX X G W .fz a f) : DX X G W .fz (.UnaryOp .Not a pos) (eNot f) :=
  PE.imp (pe_not ha) fun σ H Q ⟨F, ρ, E, g⟩ => tX_bind E g fun v d ρ1 H1 F1 E1 r g1 _ => by
    cases d with
    | bool q =>
      cases r
      exact ⟨q, rfl, Go.done g1 E1 _ (.fz (.bl _))⟩
    | _ => exact g1.elim
theorem dx_if (hc : DT X G W c ba) (ha : DX X G W t a f) (hb : DX X G W t b g) : DX X G W t (.IfExp c a b pos) (eIf ba f g) :=
  PE.imp (pe_ifExp hc ha hb) fun σ H Q ⟨F, ρ, E, g⟩ => tB_bind E g fun d ρ1 H1 F1 E1 g1 _ => by
    cases d with
    | true => exact ⟨F1, ρ1, E1, g1⟩
    | false => exact ⟨F1, ρ1, E1, g1⟩
theorem dx_un {op : UnaryOp} {r : V → Hp → VK → Prop} {gg : D → Option D} (ho : UnR X (unaryOp op) r) (pv : PV1 G.B r t gg) (ha : DO X G W a fa) : DX X G W t (.UnaryOp op a pos) (eOp1 gg fa) :=
  PE.imp (pe_un ho ha) fun σ H Q ⟨F, ρ, E, g⟩ => tO_bind E g fun x a1 ρ1 H1 F1 E1 o1 g1 _ => by
    cases e1 : deref ρ1 a1 with
    | none => rw [e1] at g1; exact g1.elim
    | some d1 =>
      simp only [e1] at g1
      cases e3 : gg d1 with
      | none => rw [e3] at g1; exact g1.elim
      | some z =>
        rw [e3] at g1
        exact pv x d1 H1 (Wof F1 G.O) Q z (o1.rq E1 e1) e3 (there_W E1) fun v H' Fl k hn nd o => let ⟨h3, o'⟩ := Go.fin g1 E1 k hn nd o; h3 v o'
theorem opN_end {r : List V → Hp → VK → Prop} {gg : List D → Option D} {σ : L2.St} {H2 : Hp} {F2 : Nat → List Addr} {ρ2 : Env} {xs : List V} {as : List Arg} {Q : VK} (pv : PVn G.B r t gg) (E2 : EnvOk G σ ρ2 H2 F2) (o1 : ArgsOk G σ H2 F2 xs as)
    (g2 : Go G W σ (match derefs ρ2 as with | some ds => ofO (gg ds) ρ2 | none => .err) H2 F2 fun d _ H' F' Fl => ∀ v, Own G.B H' (Wof F' (G.add Fl).O) t v d Fl → Q v H') : r xs H2 Q := by
  cases e1 : derefs ρ2 as with
  | none => rw [e1] at g2; exact g2.elim
  | some ds =>
    simp only [e1] at g2
    cases e3 : gg ds with
    | none => rw [e3] at g2; exact g2.elim
    | some z =>
      rw [e3] at g2
      exact pv xs ds H2 (Wof F2 G.O) Q z (o1.rq E2 e1) e3 (there_W E2) fun v H' Fl k hn nd o => let ⟨h3, o'⟩ := Go.fin g2 E2 k hn nd o; h3 v o'
theorem dx_callB {id : String} {r : List V → Hp → VK → Prop} {gg : List D → Option D} {p : Pos} (hc : CallR X (.builtin id) r) (pv : PVn G.B r t gg) (hg : Gl X x) (hm : X.mg x = none) (hv : bootBuiltins x = some (.builtin id)) (ha : DA X G W (e :: es) fs)
    (hn : x ≠ "__name__" := by decide) (hdb : (x == ("__debug__" : Str)) = false := by decide) (he : starEach (e :: es) X.env = (false, eval e X.env) :: starEach es X.env := by rfl) (hpl : (backTo pos (starEach es X.env)).any (·.1) = false := by rfl) :
    DX X G W t (.Call (.Name x p) (e :: es) [] pos) (eOpN gg fs) :=
  PE.imp (pe_callB hc hg hm hv ha hn hdb he hpl) fun σ H Q ⟨F, ρ, E, g⟩ => tAs_bind E g fun vs as ρ1 H1 F1 E1 os g1 _ => opN_end pv E1 os g1
theorem dx_callTy {id : String} {r : List V → Hp → VK → Prop} {gg : List D → Option D} {p : Pos} (hc : CallR X (.type id) r) (pv : PVn G.B r t gg) (hg : Gl X x) (hm : X.mg x = none) (hv : bootBuiltins x = some (.type id)) (ha : DA X G W (e :: es) fs)
    (hn : x ≠ "__name__" := by decide) (hdb : (x == ("__debug__" : Str)) = false := by decide) (he : starEach (e :: es) X.env = (false, eval e X.env) :: starEach es X.env := by rfl) (hpl : (backTo pos (starEach es X.env)).any (·.1) = false := by rfl) :
    DX X G W t (.Call (.Name x p) (e :: es) [] pos) (eOpN gg fs) :=
  PE.imp (pe_callTy hc hg hm hv ha hn hdb he hpl) fun σ H Q ⟨F, ρ, E, g⟩ => tAs_bind E g fun vs as ρ1 H1 F1 E1 os g1 _ => opN_end pv E1 os g1
end
end PD

set_option Elab.async false
set_option linter.all false
set_option maxRecDepth 100000
set_option maxHeartbeats 4000000
/-! PDe: the operations, by data. -/
namespace PD
open PySem PySem.Spec PyProof.Rows L2

/-! ### what a value is, by its datum -/
section
variable {B : Bs} {H : Hp} {W : Wr} {v : V}
theorem rq_int {i : Int} (h : Rq B H W v (.int i)) : v = .int i := by
  rcases h with h | ⟨_, _, _, _, e, _⟩ | ⟨_, _, _, _, e, _⟩ | ⟨_, _, _, _, e, _⟩
  · cases h; rfl
  · cases e
  · cases e
  · cases e
theorem rq_bool {i : Bool} (h : Rq B H W v (.bool i)) : v = .bl i := by
  rcases h with h | ⟨_, _, _, _, e, _⟩ | ⟨_, _, _, _, e, _⟩ | ⟨_, _, _, _, e, _⟩
  · cases h; rfl
  · cases e
  · cases e
  · cases e
theorem rq_none (h : Rq B H W v .none) : v = .non := by
  rcases h with h | ⟨_, _, _, _, e, _⟩ | ⟨_, _, _, _, e, _⟩ | ⟨_, _, _, _, e, _⟩
  · cases h; rfl
  · cases e
  · cases e
  · cases e
theorem rq_str {x : Str} (h : Rq B H W v (.str x)) : v = .str x ∧ x.length ≤ lim := by
  rcases h with h | ⟨_, _, _, _, e, _⟩ | ⟨_, _, _, _, e, _⟩ | ⟨_, _, _, _, e, _⟩
  · cases h with | str z => exact ⟨rfl, z⟩
  · cases e
  · cases e
  · cases e
theorem rq_list {ds : List D} (h : Rq B H W v (.list ds)) : ∃ a xs, v = .ref a ∧ Rm B H a xs ∧ ds.length ≤ lim ∧ RpAll B H W xs ds := by
  rcases h with h | ⟨a, xs, es, rfl, e, h1, h2, h3⟩ | ⟨_, _, _, _, e, _⟩ | ⟨_, _, _, _, e, _⟩
  · cases h with | lst r l q => exact ⟨_, _, rfl, r.rm, l, q⟩
  · cases e; exact ⟨a, xs, rfl, .inl (.inl h1), h2, h3⟩
  · cases e
  · cases e
theorem rq_tup {ds : List D} (h : Rq B H W v (.tuple ds)) : ∃ a xs, v = .ref a ∧ Rd H a (.tup xs) ∧ ¬ W a ∧ ds.length ≤ lim ∧ RpAll B H W xs ds := by
  rcases h with h | ⟨_, _, _, _, e, _⟩ | ⟨_, _, _, _, e, _⟩ | ⟨_, _, _, _, e, _⟩
  · cases h with | tup r n l q => exact ⟨_, _, rfl, r, n, l, q⟩
  · cases e
  · cases e
  · cases e
theorem rq_tupRp {ds : List D} (h : Rq B H W v (.tuple ds)) : Rp B H W v (.tuple ds) := by
  obtain ⟨a, xs, rfl, r, n, l, q⟩ := rq_tup h
  exact .tup r n l q
theorem RpAll.toInts : ∀ {ns : List Int} {vs : List V}, RpAll B H W vs (ns.map .int) → vs = ns.map V.int
  | [], _, h => by cases h; rfl
  | n :: ns, _, h => by
    cases h with
    | cons a b => cases a; rw [RpAll.toInts b]; rfl
theorem RpAll.toBools : ∀ {ns : List Bool} {vs : List V}, RpAll B H W vs (ns.map .bool) → vs = ns.map V.bl
  | [], _, h => by cases h; rfl
  | n :: ns, _, h => by
    cases h with
    | cons a b => cases a; rw [RpAll.toBools b]; rfl
theorem RpAll.ofBools : ∀ {ns : List Bool}, RpAll B H W (ns.map V.bl) (ns.map .bool)
  | [] => .nil
  | n :: ns => .cons (.bl n) RpAll.ofBools
theorem RpAll.toStrs : ∀ {ns : List Str} {vs : List V}, RpAll B H W vs (ns.map .str) → vs = ns.map V.str
  | [], _, h => by cases h; rfl
  | n :: ns, _, h => by
    cases h with
    | cons a b => cases a; rw [RpAll.toStrs b]; rfl
theorem Rp.of_mem : ∀ {ds : List D} {vs : List V} {d : D}, RpAll B H W vs ds → d ∈ ds → ∃ v, v ∈ vs ∧ Rp B H W v d
  | _ :: _, _, _, .cons a b, h => by
    rcases List.mem_cons.mp h with rfl | h
    · exact ⟨_, List.mem_cons_self, a⟩
    · obtain ⟨v, h1, h2⟩ := Rp.of_mem b h
      exact ⟨v, List.mem_cons_of_mem _ h1, h2⟩

/-! no dict within -/
mutual
theorem Rp.dp : ∀ (d : D) {v : V}, d.canLay0 = true → Rp B H W v d → Dp B.2.2 H v d
  | .none, _, _, h => by cases h; exact .non
  | .bool _, _, _, h => by cases h; exact .bl _
  | .int _, _, _, h => by cases h; exact .int _
  | .str _, _, _, h => by cases h; exact .str _
  | .list ds, _, c, h => by
    cases h with
    | lst r l q => exact .lst r.rm.sq (RpAll.dp ds (by simpa [PyData.canLay0] using c) q)
  | .tuple ds, _, c, h => by
    cases h with
    | tup r n l q => exact .tup (.inl r) (RpAll.dp ds (by simpa [PyData.canLay0] using c) q)
  | .dict _, _, c, _ => by simp [PyData.canLay0] at c
theorem RpAll.dp : ∀ (ds : List D) {vs : List V}, PyData.canLayAll0 ds = true → RpAll B H W vs ds → DpAll B.2.2 H vs ds
  | [], _, _, h => by cases h; exact .nil
  | d :: ds, _, c, h => by
    rw [PyData.canLayAll0, Bool.and_eq_true] at c
    cases h with
    | cons a b => exact .cons (Rp.dp d c.1 a) (RpAll.dp ds c.2 b)
end
theorem Rq.dp {d : D} (c : d.canLay0 = true) (h : Rq B H W v d) : Dp B.2.2 H v d := by
  rcases h with h | ⟨a, xs, ds, rfl, rfl, h1, _, h3⟩ | ⟨_, _, _, _, rfl, _⟩ | ⟨_, _, _, _, rfl, _⟩
  · exact Rp.dp d c h
  · exact .lst (.inl (.inl h1)) (RpAll.dp ds (by simpa [PyData.canLay0] using c) h3)
  · simp [PyData.canLay0] at c
  · simp [PyData.canLay0] at c
end
/-- a new list, frozen -/
theorem VOut.lstF {B : Bs} {H : Hp} {W : Wr} {ds : List D} {xs : List V} {Q : VK} {p : Addr} (h : VOut B H W .fz (.list ds) Q) (hp : H p = none) (r : RpAll B H W xs ds) (l : ds.length ≤ lim) (hW : ∀ a, W a → ∃ o, H a = some o) : Q (.ref p) (upd H p (.lst xs)) :=
  h (.ref p) _ [] (ext_upd hp) (fun a q => nomatch q) List.nodup_nil (.fz (.lst (.inl ⟨.inl upd_same, fun q => by
    rcases q with q | q
    · obtain ⟨o, e⟩ := hW p q
      rw [hp] at e; cases e
    · cases q⟩) l (RpAll.keep (fun a u e _ => ext_upd hp a u e) (fun a q => .inl (q.elim id fun q => nomatch q)) ds r)))
theorem VOut.atom {B : Bs} {H : Hp} {W : Wr} {z : D} {Q : VK} {v : V} {t : T} (h : VOut B H W t z Q) (i : imm z = true) (r : ∀ W', Rp B H W' v z) : Q v H := h.same (.imm i (r _))
theorem VOut.bl {B : Bs} {H : Hp} {W : Wr} {k : Bool} {Q : VK} {t : T} (h : VOut B H W t (.bool k) Q) : Q (.bl k) H := h.atom rfl fun _ => .bl k
theorem VOut.int {B : Bs} {H : Hp} {W : Wr} {k : Int} {Q : VK} {t : T} (h : VOut B H W t (.int k) Q) : Q (.int k) H := h.atom rfl fun _ => .int k
theorem VOut.str {B : Bs} {H : Hp} {W : Wr} {k : Str} {Q : VK} {t : T} (h : VOut B H W t (.str k) Q) (l : k.length ≤ lim) : Q (.str k) H := h.atom rfl fun _ => .str l
theorem VOut.rp {B : Bs} {H : Hp} {W : Wr} {z : D} {Q : VK} {v : V} (h : VOut B H W .fz z Q) (r : Rp B H W v z) : Q v H := h.same (.fz r)

/-! ### lists that are read -/
section
variable {X : Cx} {pins : List (Addr × Obj)} {σ : L2.St} {H : Hp} {s : Shared}
theorem lstR {B : Bs} {l : Addr} {xs : List V} (I : Inv X pins σ H s) (hB : B.2.2 = X.K) (h : Rm B H l xs) : xs.length ≤ sizeLine ∧ ∃ (its : List Value) (n : Nat), Vals xs its ∧ xs.length = its.length ∧ s.heap.get? l = some { cls := .type "list", data := .seq its.toArray n } := by
  rcases h with h | ⟨its, n, e, z, r⟩
  · obtain ⟨z, its, n, r, e⟩ := h.ok I.hok
    exact ⟨z, its, n, r, r.length, e⟩
  · rw [hB] at e
    exact ⟨z, its, n, r, r.length, I.kIn _ _ e⟩
/-- list + list, both only read -/
def rCatR (K : PySem.W.Frag) : R2 := fun x y H Q => ∃ l b xs zs, ∃ B : Bs, B.2.2 = K ∧ x = .ref l ∧ y = .ref b ∧ Rm B H l xs ∧ Rm B H b zs ∧ xs.length + zs.length ≤ sizeLine ∧ ∀ p, H p = none → Q (.ref p) (upd H p (.lst (xs ++ zs)))
theorem op_catR : OpR X (binaryOp .Add) (rCatR X.K) := by
  intro pins s σ H x y v u Q I rx ry h
  obtain ⟨l, b, xs, zs, B, eB, rfl, rfl, hH, hB, hz, q⟩ := h
  cases rx; cases ry
  obtain ⟨_, its, n, r, hl, e⟩ := lstR I eB hH
  obtain ⟨_, jts, m, r2, hl2, e2⟩ := lstR I eB hB
  refine PySem.P.add_list e e2 ?_ (by simp only [List.size_toArray]; omega)
  rw [show its.toArray ++ jts.toArray = (its ++ jts).toArray by simp]
  refine ⟨.ref _, _, I.lnew (t' := s.toks) (r.append r2) ?_, rfl, q _ I.fresh⟩
  simp only [List.length_append]; omega
end

/-! ### arithmetic -/
def addD : D → D → Option D
  | .int i, .int j => some (.int (i + j))
  | .str x, .str y => if x.length + y.length ≤ lim then some (.str (x ++ y)) else none
  | .tuple a, .tuple b => if a.length + b.length ≤ lim then some (.tuple (a ++ b)) else none
  | .list a, .list b => if a.length + b.length ≤ lim then some (.list (a ++ b)) else none
  | _, _ => none
def catD : D → D → Option D
  | .list a, .list b => if a.length + b.length ≤ lim then some (.list (a ++ b)) else none
  | _, _ => none
def rAddA (K : PySem.W.Frag) : R2 := fun x y H Q => (rI0 (fun i j => .int (i + j))) x y H Q ∨ (∃ i j, x = .str i ∧ y = .str j ∧ i.length + j.length ≤ sizeLine ∧ Q (.str (i ++ j)) H) ∨ rCatA K x y H Q ∨ rCatR K x y H Q
theorem op_addA {X : Cx} : OpR X (binaryOp .Add) (rAddA X.K) := op_add.or (op_add_str.or (op_catA.or op_catR))
theorem pv_add {B : Bs} : PV2 B (rAddA B.2.2) .fz addD := by
  intro x y d e H W Q z hx hy hz hW k
  unfold addD at hz
  split at hz
  · cases hz
    exact .inl ⟨_, _, rq_int hx, rq_int hy, k.int⟩
  · obtain ⟨rfl, lx⟩ := rq_str hx
    obtain ⟨rfl, ly⟩ := rq_str hy
    split at hz
    · rename_i hl
      cases hz
      exact .inr (.inl ⟨_, _, rfl, rfl, lim_size hl, k.str (by rw [PySem.Str.length_append]; exact hl)⟩)
    · cases hz
  · split at hz
    · rename_i as bs hl
      cases hz
      obtain ⟨a, xs, rfl, ra, na, la, qa⟩ := rq_tup hx
      obtain ⟨b, ys, rfl, rb, nb, lb, qb⟩ := rq_tup hy
      have e1 := qa.length
      have e2 := qb.length
      refine .inr (.inr (.inl ⟨a, b, xs, ys, rfl, rfl, .inl ra, .inl rb, lim_size (by omega), fun q => ?_, fun _ q => ?_, fun _ _ p hp => k.tup hp (qa.append qb) (by simpa using hl) hW⟩))
      · subst q
        have : as = [] := List.length_eq_zero_iff.mp (by simpa using e1.symm)
        subst this
        exact k.rp (by simpa using .tup rb nb lb qb)
      · subst q
        have : bs = [] := List.length_eq_zero_iff.mp (by simpa using e2.symm)
        subst this
        exact k.rp (by simpa using .tup ra na la qa)
    · cases hz
  · split at hz
    · rename_i as bs hl
      cases hz
      obtain ⟨a, xs, rfl, ra, la, qa⟩ := rq_list hx
      obtain ⟨b, ys, rfl, rb, lb, qb⟩ := rq_list hy
      have e1 := qa.length
      have e2 := qb.length
      exact .inr (.inr (.inr ⟨a, b, xs, ys, B, rfl, rfl, rfl, ra, rb, lim_size (by omega), fun p hp => k.lstF hp (qa.append qb) (by simpa using hl) hW⟩))
    · cases hz
  · cases hz
theorem pv_cat {B : Bs} : PV2 B (rCatR B.2.2) (.lst .fz) catD := by
  intro x y d e H W Q z hx hy hz hW k
  unfold catD at hz
  split at hz
  · split at hz
    · rename_i as bs hl
      cases hz
      obtain ⟨a, xs, rfl, ra, la, qa⟩ := rq_list hx
      obtain ⟨b, ys, rfl, rb, lb, qb⟩ := rq_list hy
      have e1 := qa.length
      have e2 := qb.length
      exact ⟨a, b, xs, ys, B, rfl, rfl, rfl, ra, rb, lim_size (by omega), fun p hp => k.lst hp (qa.append qb) (by simpa using hl)⟩
    · cases hz
  · cases hz
def subD : D → D → Option D
  | .int i, .int j => some (.int (i - j))
  | _, _ => none
theorem pv_sub {B : Bs} : PV2 B (rI0 fun i j => .int (i - j)) .fz subD := by
  intro x y d e H W Q z hx hy hz hW k
  unfold subD at hz
  split at hz
  · cases hz
    exact ⟨_, _, rq_int hx, rq_int hy, k.int⟩
  · cases hz
def smallI (i : Int) : Bool := decide (-(2 ^ 64) < i) && decide (i < 2 ^ 64)
def wideI (i j : Int) : Bool := decide (i.natAbs.log2 + j.natAbs.log2 < 1000000)
theorem wideI_of {i j : Int} {a b : Nat} (ha : i.natAbs < 2 ^ a) (hb : j.natAbs < 2 ^ b) (h0 : 0 < a) (h1 : 0 < b) (h : a + b ≤ 1000000) : wideI i j = true := decide_eq_true (wide_mul ha hb h0 h1 h)
def mulD : D → D → Option D
  | .int i, .int j => if (smallI i || smallI j || wideI i j) = true then some (.int (i * j)) else none
  | .list a, .int k => if (smallK k && decide (a.length * k.toNat ≤ lim)) = true then some (.list (List.replicate k.toNat a).flatten) else none
  | .tuple a, .int k => if (decide (a ≠ []) && decide (2 ≤ k) && decide (k ≤ 1000) && decide (a.length ≤ 1000)) = true then some (.tuple (List.replicate k.toNat a).flatten) else none
  | _, _ => none
where smallK (k : Int) : Bool := decide (-(2 ^ 62) < k) && decide (k < 2 ^ 62)
/-- list * int, the list only read -/
def rRepR : R2 := fun x y H Q => ∃ l k xs, x = .ref l ∧ y = .int k ∧ H l = some (.lst xs) ∧ -(2 ^ 63) ≤ k ∧ k < 2 ^ 63 ∧ xs.length * k.toNat ≤ sizeLine ∧ ∀ p, H p = none → Q (.ref p) (upd H p (.lst (List.replicate k.toNat xs).flatten))
def fdivD : D → D → Option D
  | .int i, .int j => if (decide (0 < j) && decide (j.natAbs.log2 < 9000)) = true then some (.int (i / j)) else none
  | _, _ => none
theorem pv_fdiv {B : Bs} : PV2 B (rI CDivW fun i j => .int (i / j)) .fz fdivD := by
  intro x y d e H W Q z hx hy hz hW k
  unfold fdivD at hz
  split at hz
  · split at hz
    · rename_i h
      cases hz
      simp only [Bool.and_eq_true, decide_eq_true_eq] at h
      exact ⟨_, _, rq_int hx, rq_int hy, h, k.int⟩
    · cases hz
  · cases hz
def modD : D → D → Option D
  | .int i, .int j => if 0 < j then some (.int (i % j)) else none
  | _, _ => none
theorem pv_mod {B : Bs} : PV2 B (rI (fun _ j => 0 < j) fun i j => .int (i % j)) .fz modD := by
  intro x y d e H W Q z hx hy hz hW k
  unfold modD at hz
  split at hz
  · split at hz
    · rename_i h
      cases hz
      exact ⟨_, _, rq_int hx, rq_int hy, h, k.int⟩
    · cases hz
  · cases hz
def powD : D → D → Option D
  | .int i, .int j => if (decide (0 ≤ j) && decide (j ≤ 1000) && decide (i.natAbs < 2 ^ 64)) = true then some (.int (i ^ j.toNat)) else none
  | _, _ => none
theorem pv_pow {B : Bs} : PV2 B (rI CPow fun i j => .int (i ^ j.toNat)) .fz powD := by
  intro x y d e H W Q z hx hy hz hW k
  unfold powD at hz
  split at hz
  · split at hz
    · rename_i h
      cases hz
      simp only [Bool.and_eq_true, decide_eq_true_eq] at h
      exact ⟨_, _, rq_int hx, rq_int hy, ⟨h.1.1, by omega, h.2⟩, k.int⟩
    · cases hz
  · cases hz
def negD : D → Option D
  | .int i => some (.int (-i))
  | _ => none
theorem pv_neg {B : Bs} : PV1 B (rU fun i => .int (-i)) .fz negD := by
  intro x d H W Q z hx hz hW k
  unfold negD at hz
  split at hz
  · cases hz
    exact ⟨_, rq_int hx, k.int⟩
  · cases hz

/-! ### comparisons -/
def eqD (d e : D) : Option D := if (SeqAt.shaped d && SeqAt.shaped e) = true then some (.bool (PyData.eqv d e)) else none
def neD (d e : D) : Option D := if (SeqAt.shaped d && SeqAt.shaped e) = true then some (.bool (!PyData.eqv d e)) else none
theorem pv_eq {B : Bs} : PV2 B (rEqD B.2.2) .fz eqD := by
  intro x y d e H W Q z hx hy hz hW k
  unfold eqD at hz
  split at hz
  · rename_i h
    rw [Bool.and_eq_true] at h
    cases hz
    exact ⟨d, e, hx.dp (SeqAt.canLay_of_shaped h.1), hy.dp (SeqAt.canLay_of_shaped h.2), h.1, h.2, k.bl⟩
  · cases hz
theorem pv_ne {B : Bs} : PV2 B (rNeD B.2.2) .fz neD := by
  intro x y d e H W Q z hx hy hz hW k
  unfold neD at hz
  split at hz
  · rename_i h
    rw [Bool.and_eq_true] at h
    cases hz
    exact ⟨d, e, hx.dp (SeqAt.canLay_of_shaped h.1), hy.dp (SeqAt.canLay_of_shaped h.2), h.1, h.2, k.bl⟩
  · cases hz
def noneD : D → Bool
  | .none => true
  | _ => false
/-- the two can be asked which is less -/
def cmpOk (d e : D) : Bool := SeqAt.shaped d && SeqAt.shaped e && PySem.W.alike d e && !noneD d
def rLtD (K : PySem.W.Frag) (f : D → D → Bool) : R2 := fun x y H Q => ∃ d e, Dp K H x d ∧ Dp K H y e ∧ cmpOk d e = true ∧ Q (.bl (f d e)) H
section
variable {X : Cx}
theorem room_cmp {A : Around} {d e : D} (h : cmpOk d e = true) (hu : A.units + 64 < cLine) : A.units + min d.depth e.depth < cLine := by
  have h1 : d.depth ≤ 64 := by
    have : SeqAt.shaped d = true := by
      unfold cmpOk at h
      simp only [Bool.and_eq_true] at h
      exact h.1.1.1
    exact of_decide_eq_true (Bool.and_eq_true_iff.mp this).2
  omega
theorem cmpOk_alike {d e : D} (h : cmpOk d e = true) : PySem.W.alike d e = true ∧ d ≠ .none := by
  unfold cmpOk at h
  simp only [Bool.and_eq_true, Bool.not_eq_true'] at h
  exact ⟨h.1.2, fun q => by subst q; exact absurd h.2 (by decide)⟩
theorem op_ltD (hu : X.A.units + 64 < cLine) : OpR X (compareOp .Lt) (rLtD X.K fun d e => PySem.W.dataLt d e) := by
  intro pins s σ H x y v u Q I rx ry h
  obtain ⟨d, e, hd, he, c, q⟩ := h
  obtain ⟨as, r1⟩ := Dp.reads I d x v hd rx
  obtain ⟨bs, r2⟩ := Dp.reads I e y u he ry
  exact PySem.W.lt_data r1 r2 (cmpOk_alike c).1 (cmpOk_alike c).2 (room_cmp c hu) ⟨.bl _, H, I, rfl, q⟩
theorem op_leD (hu : X.A.units + 64 < cLine) : OpR X (compareOp .LtE) (rLtD X.K fun d e => !PySem.W.dataLt e d) := by
  intro pins s σ H x y v u Q I rx ry h
  obtain ⟨d, e, hd, he, c, q⟩ := h
  obtain ⟨as, r1⟩ := Dp.reads I d x v hd rx
  obtain ⟨bs, r2⟩ := Dp.reads I e y u he ry
  exact PySem.W.le_data r1 r2 (cmpOk_alike c).1 (cmpOk_alike c).2 (room_cmp c hu) ⟨.bl _, H, I, rfl, q⟩
theorem op_gtD (hu : X.A.units + 64 < cLine) : OpR X (compareOp .Gt) (rLtD X.K fun d e => PySem.W.dataLt e d) := by
  intro pins s σ H x y v u Q I rx ry h
  obtain ⟨d, e, hd, he, c, q⟩ := h
  obtain ⟨as, r1⟩ := Dp.reads I d x v hd rx
  obtain ⟨bs, r2⟩ := Dp.reads I e y u he ry
  exact PySem.W.gt_data r1 r2 (cmpOk_alike c).1 (cmpOk_alike c).2 (room_cmp c hu) ⟨.bl _, H, I, rfl, q⟩
theorem op_geD (hu : X.A.units + 64 < cLine) : OpR X (compareOp .GtE) (rLtD X.K fun d e => !PySem.W.dataLt d e) := by
  intro pins s σ H x y v u Q I rx ry h
  obtain ⟨d, e, hd, he, c, q⟩ := h
  obtain ⟨as, r1⟩ := Dp.reads I d x v hd rx
  obtain ⟨bs, r2⟩ := Dp.reads I e y u he ry
  exact PySem.W.ge_data r1 r2 (cmpOk_alike c).1 (cmpOk_alike c).2 (room_cmp c hu) ⟨.bl _, H, I, rfl, q⟩
end
def ltD (d e : D) : Option D := if cmpOk d e = true then some (.bool (PySem.W.dataLt d e)) else none
def leD (d e : D) : Option D := if cmpOk d e = true then some (.bool (!PySem.W.dataLt e d)) else none
def gtD (d e : D) : Option D := if cmpOk d e = true then some (.bool (PySem.W.dataLt e d)) else none
def geD (d e : D) : Option D := if cmpOk d e = true then some (.bool (!PySem.W.dataLt d e)) else none
theorem pv_cmp {B : Bs} {f : D → D → Bool} : PV2 B (rLtD B.2.2 f) .fz fun d e => if cmpOk d e = true then some (.bool (f d e)) else none := by
  intro x y d e H W Q z hx hy hz hW k
  simp only at hz
  split at hz
  · rename_i h
    cases hz
    have h' := h
    unfold cmpOk at h'
    simp only [Bool.and_eq_true] at h'
    exact ⟨d, e, hx.dp (SeqAt.canLay_of_shaped h'.1.1.1), hy.dp (SeqAt.canLay_of_shaped h'.1.1.2), h, k.bl⟩
  · cases hz
def isN : D → D → Option D
  | d, .none => some (.bool (noneD d))
  | _, _ => none
def notN : D → D → Option D
  | d, .none => some (.bool (!noneD d))
  | _, _ => none
theorem noneD_v {B : Bs} {H : Hp} {W : Wr} {v : V} {d : D} (h : Rq B H W v d) : decide (v = .non) = noneD d := by
  rcases h with h | ⟨_, _, _, rfl, rfl, _⟩ | ⟨_, _, _, rfl, rfl, _⟩ | ⟨_, _, _, rfl, rfl, _⟩
  · cases h <;> rfl
  · rfl
  · rfl
  · rfl
theorem pv_is {B : Bs} : PV2 B (fun x y H Q => y = .non ∧ Q (.bl (decide (x = .non))) H) .fz isN := by
  intro x y d e H W Q z hx hy hz hW k
  unfold isN at hz
  split at hz
  · cases hz
    refine ⟨rq_none hy, ?_⟩
    rw [noneD_v hx]
    exact k.bl
  · cases hz
theorem pv_isnot {B : Bs} : PV2 B (fun x y H Q => y = .non ∧ Q (.bl (!decide (x = .non))) H) .fz notN := by
  intro x y d e H W Q z hx hy hz hW k
  unfold notN at hz
  split at hz
  · cases hz
    refine ⟨rq_none hy, ?_⟩
    rw [noneD_v hx]
    exact k.bl
  · cases hz
end PD

set_option Elab.async false
set_option linter.all false
set_option maxRecDepth 100000
set_option maxHeartbeats 4000000
/-! PDf: more operations: in, places, slices, built-in calls, sorted. -/
namespace PD
open PySem PySem.Spec PyProof.Rows L2

/-! ### in -/
def strIn (x y : Str) : Bool := !(Builtin.Str.occurrences y x 0 y.length 1).isEmpty
def inD : D → D → Option D
  | d, .list es => if (SeqAt.shaped d && SeqAt.shaped (.list es)) = true then some (.bool (es.any fun z => PyData.eqv z d)) else none
  | d, .tuple es => if (SeqAt.shaped d && SeqAt.shaped (.tuple es)) = true then some (.bool (es.any fun z => PyData.eqv z d)) else none
  | .str x, .str y => some (.bool (strIn x y))
  | _, _ => none
def notInD : D → D → Option D
  | d, .list es => if (SeqAt.shaped d && SeqAt.shaped (.list es)) = true then some (.bool (!es.any fun z => PyData.eqv z d)) else none
  | d, .tuple es => if (SeqAt.shaped d && SeqAt.shaped (.tuple es)) = true then some (.bool (!es.any fun z => PyData.eqv z d)) else none
  | .str x, .str y => some (.bool (!strIn x y))
  | _, _ => none
def rInT (K : PySem.W.Frag) (neg : Bool) : R2 := fun x y H Q => ∃ d ds, Dp K H x d ∧ Dp K H y (.tuple ds) ∧ SeqAt.shaped d = true ∧ SeqAt.shaped (.tuple ds) = true ∧ Q (.bl (if neg then !(ds.any fun z => PyData.eqv z d) else ds.any fun z => PyData.eqv z d)) H
section
variable {X : Cx}
theorem op_inT (hu : X.A.units + 65 < cLine) : OpR X (compareOp .In) (rInT X.K false) := by
  intro pins s σ H x y v u Q I rx ry h
  obtain ⟨d, ds, hd, he, sd, se, q⟩ := h
  obtain ⟨as, r1⟩ := Dp.reads I d x v hd rx
  obtain ⟨bs, r2⟩ := Dp.reads I (.tuple ds) y u he ry
  exact SeqAt.in_tuple_reads r2 r1 (SeqAt.canLay_of_shaped se) (SeqAt.canLay_of_shaped sd) (room_in_shaped sd hu) ⟨.bl _, H, I, rfl, q⟩
theorem op_notInT (hu : X.A.units + 65 < cLine) : OpR X (compareOp .NotIn) (rInT X.K true) := by
  intro pins s σ H x y v u Q I rx ry h
  obtain ⟨d, ds, hd, he, sd, se, q⟩ := h
  obtain ⟨as, r1⟩ := Dp.reads I d x v hd rx
  obtain ⟨bs, r2⟩ := Dp.reads I (.tuple ds) y u he ry
  exact SeqAt.notIn_tuple_reads r2 r1 (SeqAt.canLay_of_shaped se) (SeqAt.canLay_of_shaped sd) (room_in_shaped sd hu) ⟨.bl _, H, I, rfl, q⟩
def rInA (K : PySem.W.Frag) : R2 := fun x y H Q => rInD K x y H Q ∨ rInT K false x y H Q ∨ (∃ i j, x = .str i ∧ y = .str j ∧ Q (.bl (!(Builtin.Str.occurrences j i 0 j.length 1).isEmpty)) H)
def rNotInA (K : PySem.W.Frag) : R2 := fun x y H Q => rNotInD K x y H Q ∨ rInT K true x y H Q ∨ (∃ i j, x = .str i ∧ y = .str j ∧ Q (.bl (!(!(Builtin.Str.occurrences j i 0 j.length 1).isEmpty))) H)
theorem op_inA (hu : X.A.units + 65 < cLine) : OpR X (compareOp .In) (rInA X.K) := (op_inD hu).or ((op_inT hu).or op_in_str)
theorem op_notInA (hu : X.A.units + 65 < cLine) : OpR X (compareOp .NotIn) (rNotInA X.K) := (op_notInD hu).or ((op_notInT hu).or op_notIn_str)
end
theorem pv_in {B : Bs} : PV2 B (rInA B.2.2) .fz inD := by
  intro x y d e H W Q z hx hy hz hW k
  unfold inD at hz
  split at hz
  · split at hz
    · rename_i h
      rw [Bool.and_eq_true] at h
      cases hz
      exact .inl ⟨d, _, hx.dp (SeqAt.canLay_of_shaped h.1), hy.dp (SeqAt.canLay_of_shaped h.2), h.1, h.2, k.bl⟩
    · cases hz
  · split at hz
    · rename_i h
      rw [Bool.and_eq_true] at h
      cases hz
      exact .inr (.inl ⟨d, _, hx.dp (SeqAt.canLay_of_shaped h.1), hy.dp (SeqAt.canLay_of_shaped h.2), h.1, h.2, k.bl⟩)
    · cases hz
  · cases hz
    exact .inr (.inr ⟨_, _, (rq_str hx).1, (rq_str hy).1, k.bl⟩)
  · cases hz
theorem pv_notIn {B : Bs} : PV2 B (rNotInA B.2.2) .fz notInD := by
  intro x y d e H W Q z hx hy hz hW k
  unfold notInD at hz
  split at hz
  · split at hz
    · rename_i h
      rw [Bool.and_eq_true] at h
      cases hz
      exact .inl ⟨d, _, hx.dp (SeqAt.canLay_of_shaped h.1), hy.dp (SeqAt.canLay_of_shaped h.2), h.1, h.2, k.bl⟩
    · cases hz
  · split at hz
    · rename_i h
      rw [Bool.and_eq_true] at h
      cases hz
      exact .inr (.inl ⟨d, _, hx.dp (SeqAt.canLay_of_shaped h.1), hy.dp (SeqAt.canLay_of_shaped h.2), h.1, h.2, k.bl⟩)
    · cases hz
  · cases hz
    exact .inr (.inr ⟨_, _, (rq_str hx).1, (rq_str hy).1, k.bl⟩)
  · cases hz

/-! ### places, slices -/
def ixD : D → D → Option D
  | .list ds, .int i => atI ds i
  | .tuple ds, .int i => atI ds i
  | .str x, .int i => (atI x.cps.toList i).map fun c => .str ⟨#[c]⟩
  | _, _ => none
theorem RpAll.atI {B : Bs} {H : Hp} {W : Wr} {ds : List D} {vs : List V} {i : Int} {d : D} (h : RpAll B H W vs ds) (e : atI ds i = some d) : ∃ v, L2.atI vs i = some v ∧ Rp B H W v d := by
  unfold L2.atI at e ⊢
  rw [h.length]
  cases q : ixN ds.length i with
  | none => rw [q] at e; cases e
  | some j =>
    rw [q] at e
    exact h.get e
theorem pv_ix {B : Bs} : PV2 B (rIx B.2.2) .fz ixD := by
  intro x y d e H W Q z hx hy hz hW k
  unfold ixD at hz
  split at hz
  · obtain ⟨a, xs, rfl, ra, la, qa⟩ := rq_list hx
    obtain ⟨v, h1, h2⟩ := qa.atI hz
    exact .inl ⟨a, xs, _, v, rfl, rq_int hy, ra.sq, h1, k.rp h2⟩
  · obtain ⟨a, xs, rfl, ra, na, la, qa⟩ := rq_tup hx
    obtain ⟨v, h1, h2⟩ := qa.atI hz
    exact .inr (.inl ⟨a, xs, _, v, rfl, rq_int hy, .inl ra, h1, k.rp h2⟩)
  · obtain ⟨c, h1, rfl⟩ := Option.map_eq_some_iff.mp hz
    exact .inr (.inr ⟨_, _, c, (rq_str hx).1, rq_int hy, lim_size (rq_str hx).2, h1, k.str (show 1 ≤ lim by decide)⟩)
  · cases hz
def cutD (xs : List D) (lo hi : Option Int) : List D := (xs.drop (HT.sIx xs.length 0 lo)).take (HT.sIx xs.length xs.length hi - HT.sIx xs.length 0 lo)
theorem cutD_length (xs : List D) (lo hi : Option Int) : (cutD xs lo hi).length ≤ xs.length := by
  unfold cutD
  rw [List.length_take, List.length_drop]
  omega
theorem cutD_whole {xs : List D} {lo hi : Option Int} (q1 : HT.sIx xs.length 0 lo = 0) (q2 : HT.sIx xs.length xs.length hi = xs.length) : cutD xs lo hi = xs := by
  unfold cutD
  rw [q1, q2, List.drop_zero, Nat.sub_zero, List.take_length]
theorem RpAll.cut {B : Bs} {H : Hp} {W : Wr} {ds : List D} {vs : List V} {lo hi : Option Int} (h : RpAll B H W vs ds) : RpAll B H W (cutV vs lo hi) (cutD ds lo hi) := by
  unfold cutV cutD
  rw [h.length]
  exact (h.drop _).take _
def slD : D → Option Int → Option Int → Option D
  | .list ds, l, u => some (.list (cutD ds l u))
  | .tuple ds, l, u => some (.tuple (cutD ds l u))
  | .str x, l, u => some (.str (cutS x l u))
  | _, _, _ => none
def slLD : D → Option Int → Option Int → Option D
  | .list ds, l, u => some (.list (cutD ds l u))
  | _, _, _ => none
def rSlAll (K : PySem.W.Frag) : V → Option Int → Option Int → Hp → VK → Prop := fun x lo hi H Q => rSlL K x lo hi H Q ∨ rSlA K x lo hi H Q ∨ rSlS x lo hi H Q
theorem sl_all {X : Cx} : SlR X (rSlAll X.K) := sl_list.or (sl_tupA.or sl_str)
theorem cutS_len (x : Str) (l u : Option Int) : (cutS x l u).length ≤ x.length := by
  show ((x.cps.toList.drop _).take _).toArray.size ≤ _
  rw [List.size_toArray, List.length_take, List.length_drop]
  have : x.cps.toList.length = x.length := by simp [Str.length]
  omega
theorem pv_sl {B : Bs} : PVs B (rSlAll B.2.2) .fz slD := by
  intro x d l u H W Q z hx hz hW k
  unfold slD at hz
  split at hz
  · cases hz
    obtain ⟨a, xs, rfl, ra, la, qa⟩ := rq_list hx
    exact .inl ⟨a, xs, rfl, ra.sq, fun p hp => k.lstF hp qa.cut (Nat.le_trans (cutD_length _ _ _) la) hW⟩
  · cases hz
    obtain ⟨a, xs, rfl, ra, na, la, qa⟩ := rq_tup hx
    refine .inr (.inl ⟨a, xs, rfl, .inl ra, fun ⟨q1, q2⟩ => ?_, fun _ p hp => k.tup hp qa.cut (Nat.le_trans (cutD_length _ _ _) la) hW⟩)
    rw [qa.length] at q1 q2
    rw [cutD_whole q1 q2] at k
    exact k.rp (.tup ra na la qa)
  · cases hz
    exact .inr (.inr ⟨_, (rq_str hx).1, lim_size (rq_str hx).2, k.str (Nat.le_trans (cutS_len _ _ _) (rq_str hx).2)⟩)
  · cases hz
theorem pv_slL {B : Bs} : PVs B (rSlL B.2.2) (.lst .fz) slLD := by
  intro x d l u H W Q z hx hz hW k
  unfold slLD at hz
  split at hz
  · cases hz
    obtain ⟨a, xs, rfl, ra, la, qa⟩ := rq_list hx
    exact ⟨a, xs, rfl, ra.sq, fun p hp => k.lst hp qa.cut (Nat.le_trans (cutD_length _ _ _) la)⟩
  · cases hz
section
variable {X : Cx} {G : Sg} {W : WX} {e : Expr} {lo hi : Option Expr} {pos p2 : Pos} {t : T} {fo : Env → Res Arg} {fl fu : Env → Res (Option Int)} {f : Env → Res D}
def tP (G : Sg) (W : WX) (f : Env → Res (Option Int)) : TO := fun σ H Q => ∃ F ρ, EnvOk G σ ρ H F ∧ Go G W σ (f ρ) H F fun o _ H' _ Fl => Fl = [] → Q o H'
abbrev DP (X : Cx) (G : Sg) (W : WX) (e : Option Expr) (f : Env → Res (Option Int)) : Prop := PO X e (tP G W f)
theorem PO.imp {X : Cx} {e : Option Expr} {t t' : TO} (h : PO X e t) (i : ∀ σ H Q, t' σ H Q → t σ H Q) : PO X e t' := ⟨fun pins s σ H Q I w => h.run pins s σ H Q I (i σ H Q w)⟩
theorem dp_none : DP X G W none pNone := PO.imp po_none fun σ H Q ⟨F, ρ, E, g⟩ => Go.done g E rfl
theorem dp_some (h : DX X G W .fz e f) : DP X G W (some e) (pSome f) := PO.imp (po_some h) fun σ H Q ⟨F, ρ, E, g⟩ => tX_bind E g fun v d ρ1 H1 F1 E1 r g1 _ => by
  cases d with
  | int i => cases r; exact ⟨i, rfl, Go.done g1 E1 rfl⟩
  | _ => exact g1.elim
theorem tP_bind {σ : L2.St} {H : Hp} {F : Nat → List Addr} {ρ : Env} {α : Type} {f : Env → Res (Option Int)} {k : Option Int → Env → Res α} {K : α → Env → Hp → (Nat → List Addr) → List Addr → Prop} {R : Option Int → Hp → Prop} (E : EnvOk G σ ρ H F) (g : Go G W σ (bnd (f ρ) k) H F K)
    (r : ∀ d ρ1 H1 F1, EnvOk G σ ρ1 H1 F1 → Go G W σ (k d ρ1) H1 F1 K → Evo H F H1 F1 [] → R d H1) : tP G W f σ H R := by
  refine ⟨F, ρ, E, (Go.bind g).imp fun d ρ1 H1 F1 Fl ⟨v1, _, E1, g1⟩ hz => ?_⟩
  subst hz
  rw [Sg.add_nil] at E1
  exact r d ρ1 H1 F1 E1 g1 v1
theorem dx_sl {r : V → Option Int → Option Int → Hp → VK → Prop} {gg : D → Option Int → Option Int → Option D} (hr : SlR X r) (pv : PVs G.B r t gg) (ho : DO X G W e fo) (hl : DP X G W lo fl) (hu : DP X G W hi fu) : DX X G W t (.Subscript e (.Slice lo hi none p2) pos) (eSl gg fo fl fu) :=
  PE.imp (pe_slice hr ho hl hu) fun σ H Q ⟨F, ρ, E, g⟩ => tO_bind E g fun x a1 ρ1 H1 F1 E1 o1 g1 _ => tP_bind E1 g1 fun l ρ2 H2 F2 E2 g2 v2 => tP_bind E2 g2 fun u ρ3 H3 F3 E3 g3 v3 => by
    cases e1 : deref ρ3 a1 with
    | none => rw [e1] at g3; exact g3.elim
    | some d1 =>
      simp only [e1] at g3
      cases e3 : gg d1 l u with
      | none => rw [e3] at g3; exact g3.elim
      | some z =>
        rw [e3] at g3
        exact pv x d1 l u H3 (Wof F3 G.O) Q z (((o1.evo v2).evo v3).rq E3 e1) e3 (there_W E3) fun v H' Fl k hn nd o => let ⟨h3, o'⟩ := Go.fin g3 E3 k hn nd o; h3 v o'
end

/-! ### built-in calls -/
theorem rqAll1 {B : Bs} {H : Hp} {W : Wr} {vs : List V} {d : D} (h : RqAll B H W vs [d]) : ∃ v, vs = [v] ∧ Rq B H W v d := by
  cases h with | cons a b => cases b; exact ⟨_, rfl, a⟩
theorem rqAll2 {B : Bs} {H : Hp} {W : Wr} {vs : List V} {d e : D} (h : RqAll B H W vs [d, e]) : ∃ v u, vs = [v, u] ∧ Rq B H W v d ∧ Rq B H W u e := by
  cases h with | cons a b => cases b with | cons c d => cases d; exact ⟨_, _, rfl, a, c⟩
def lenD : List D → Option D
  | [.list ds] => some (.int ds.length)
  | [.tuple ds] => some (.int ds.length)
  | [.str x] => some (.int x.length)
  | _ => none
def rLenA (K : PySem.W.Frag) : List V → Hp → VK → Prop := fun xs H Q => (∃ p ys, xs = [.ref p] ∧ (SqL K H p ys ∨ SqT K H p ys) ∧ Q (.int ys.length) H) ∨ (∃ z, xs = [.str z] ∧ z.length ≤ sizeLine ∧ Q (.int z.length) H)
theorem call_lenA {X : Cx} : CallR X (.builtin "len") (rLenA X.K) := call_len_seq.or call_len_str
theorem pv_len {B : Bs} : PVn B (rLenA B.2.2) .fz lenD := by
  intro xs ds H W Q z hx hz hW k
  unfold lenD at hz
  split at hz
  · cases hz
    obtain ⟨v, rfl, h⟩ := rqAll1 hx
    obtain ⟨a, ys, rfl, ra, la, qa⟩ := rq_list h
    exact .inl ⟨a, ys, rfl, .inl ra.sq, by rw [qa.length]; exact k.int⟩
  · cases hz
    obtain ⟨v, rfl, h⟩ := rqAll1 hx
    obtain ⟨a, ys, rfl, ra, na, la, qa⟩ := rq_tup h
    exact .inl ⟨a, ys, rfl, .inr (.inl ra), by rw [qa.length]; exact k.int⟩
  · cases hz
    obtain ⟨v, rfl, h⟩ := rqAll1 hx
    obtain ⟨rfl, l⟩ := rq_str h
    exact .inr ⟨_, rfl, lim_size l, k.int⟩
  · cases hz
def boolsD : List D → Option (List Bool)
  | [] => some []
  | .bool b :: ds => (boolsD ds).map fun bs => b :: bs
  | _ :: _ => none
theorem boolsD_eq : ∀ {ds : List D} {bs : List Bool}, boolsD ds = some bs → ds = bs.map .bool
  | [], _, h => by cases h; rfl
  | .bool b :: ds, _, h => by
    unfold boolsD at h
    obtain ⟨bs, h1, rfl⟩ := Option.map_eq_some_iff.mp h
    rw [boolsD_eq h1]; rfl
  | .none :: _, _, h => by cases h
  | .int _ :: _, _, h => by cases h
  | .str _ :: _, _, h => by cases h
  | .list _ :: _, _, h => by cases h
  | .tuple _ :: _, _, h => by cases h
  | .dict _ :: _, _, h => by cases h
theorem boolsD_map (bs : List Bool) : boolsD (bs.map .bool) = some bs := by
  induction bs with
  | nil => rfl
  | cons b bs ih => simp [boolsD, ih]
def allD : List D → Option D
  | [.list ds] => (boolsD ds).map fun bs => .bool (bs.all id)
  | _ => none
def anyD : List D → Option D
  | [.list ds] => (boolsD ds).map fun bs => .bool (bs.any id)
  | _ => none
theorem pv_all {B : Bs} : PVn B (rAll B.2.2) .fz allD := by
  intro xs ds H W Q z hx hz hW k
  unfold allD at hz
  split at hz
  · obtain ⟨bs, h1, rfl⟩ := Option.map_eq_some_iff.mp hz
    obtain ⟨v, rfl, h⟩ := rqAll1 hx
    obtain ⟨a, ys, rfl, ra, la, qa⟩ := rq_list h
    rw [boolsD_eq h1] at qa
    exact ⟨a, bs, rfl, (by rw [qa.toBools] at ra; exact ra.sq), k.bl⟩
  · cases hz
theorem pv_any {B : Bs} : PVn B (rAny B.2.2) .fz anyD := by
  intro xs ds H W Q z hx hz hW k
  unfold anyD at hz
  split at hz
  · obtain ⟨bs, h1, rfl⟩ := Option.map_eq_some_iff.mp hz
    obtain ⟨v, rfl, h⟩ := rqAll1 hx
    obtain ⟨a, ys, rfl, ra, la, qa⟩ := rq_list h
    rw [boolsD_eq h1] at qa
    exact ⟨a, bs, rfl, (by rw [qa.toBools] at ra; exact ra.sq), k.bl⟩
  · cases hz
def intsD : List D → Option (List Int)
  | [] => some []
  | .int b :: ds => (intsD ds).map fun bs => b :: bs
  | _ :: _ => none
theorem intsD_eq : ∀ {ds : List D} {bs : List Int}, intsD ds = some bs → ds = bs.map .int
  | [], _, h => by cases h; rfl
  | .int b :: ds, _, h => by
    unfold intsD at h
    obtain ⟨bs, h1, rfl⟩ := Option.map_eq_some_iff.mp h
    rw [intsD_eq h1]; rfl
  | .none :: _, _, h => by cases h
  | .bool _ :: _, _, h => by cases h
  | .str _ :: _, _, h => by cases h
  | .list _ :: _, _, h => by cases h
  | .tuple _ :: _, _, h => by cases h
  | .dict _ :: _, _, h => by cases h
theorem intsD_map (bs : List Int) : intsD (bs.map .int) = some bs := by
  induction bs with
  | nil => rfl
  | cons b bs ih => simp [intsD, ih]
def sumD : List D → Option D
  | [.list ds] => (intsD ds).map fun bs => .int bs.sum
  | _ => none
theorem pv_sum {B : Bs} : PVn B (rSum B.2.2) .fz sumD := by
  intro xs ds H W Q z hx hz hW k
  unfold sumD at hz
  split at hz
  · obtain ⟨bs, h1, rfl⟩ := Option.map_eq_some_iff.mp hz
    obtain ⟨v, rfl, h⟩ := rqAll1 hx
    obtain ⟨a, ys, rfl, ra, la, qa⟩ := rq_list h
    rw [intsD_eq h1] at qa
    exact ⟨a, bs, rfl, (by rw [qa.toInts] at ra; exact ra.sq), k.int⟩
  · cases hz
def min2D : List D → Option D
  | [.int i, .int j] => some (.int (min i j))
  | _ => none
def max2D : List D → Option D
  | [.int i, .int j] => some (.int (max i j))
  | _ => none
theorem pv_min2 {B : Bs} : PVn B (fun xs H Q => ∃ i j, xs = [.int i, .int j] ∧ Q (.int (if j < i then j else i)) H) .fz min2D := by
  intro xs ds H W Q z hx hz hW k
  unfold min2D at hz
  split at hz
  · rename_i i j
    cases hz
    obtain ⟨v, u, rfl, h1, h2⟩ := rqAll2 hx
    refine ⟨i, j, by rw [rq_int h1, rq_int h2], ?_⟩
    have e : (if j < i then j else i) = min i j := by split <;> omega
    rw [e]; exact k.int
  · cases hz
theorem pv_max2 {B : Bs} : PVn B (fun xs H Q => ∃ i j, xs = [.int i, .int j] ∧ Q (.int (if j > i then j else i)) H) .fz max2D := by
  intro xs ds H W Q z hx hz hW k
  unfold max2D at hz
  split at hz
  · rename_i i j
    cases hz
    obtain ⟨v, u, rfl, h1, h2⟩ := rqAll2 hx
    refine ⟨i, j, by rw [rq_int h1, rq_int h2], ?_⟩
    have e : (if j > i then j else i) = max i j := by split <;> omega
    rw [e]; exact k.int
  · cases hz
def listD : List D → Option D
  | [.list ds] => some (.list ds)
  | [.tuple ds] => some (.list ds)
  | _ => none
theorem pv_list {B : Bs} : PVn B (fun xs H Q => ∃ p ys, xs = [.ref p] ∧ (SqL B.2.2 H p ys ∨ SqT B.2.2 H p ys) ∧ ∀ l, H l = none → Q (.ref l) (upd H l (.lst ys))) (.lst .fz) listD := by
  intro xs ds H W Q z hx hz hW k
  unfold listD at hz
  split at hz
  · cases hz
    obtain ⟨v, rfl, h⟩ := rqAll1 hx
    obtain ⟨a, ys, rfl, ra, la, qa⟩ := rq_list h
    exact ⟨a, ys, rfl, .inl ra.sq, fun l hl => k.lst hl qa la⟩
  · cases hz
    obtain ⟨v, rfl, h⟩ := rqAll1 hx
    obtain ⟨a, ys, rfl, ra, na, la, qa⟩ := rq_tup h
    exact ⟨a, ys, rfl, .inr (.inl ra), fun l hl => k.lst hl qa la⟩
  · cases hz
def tupleD : List D → Option D
  | [.list ds] => some (.tuple ds)
  | [.tuple ds] => some (.tuple ds)
  | _ => none
theorem pv_tuple {B : Bs} : PVn B (fun xs H Q => ∃ p ys, xs = [.ref p] ∧ ((SqL B.2.2 H p ys ∧ ∀ l, H l = none → Q (.ref l) (upd H l (.tup ys))) ∨ (SqT B.2.2 H p ys ∧ Q (.ref p) H))) .fz tupleD := by
  intro xs ds H W Q z hx hz hW k
  unfold tupleD at hz
  split at hz
  · cases hz
    obtain ⟨v, rfl, h⟩ := rqAll1 hx
    obtain ⟨a, ys, rfl, ra, la, qa⟩ := rq_list h
    exact ⟨a, ys, rfl, .inl ⟨ra.sq, fun l hl => k.tup hl qa la hW⟩⟩
  · cases hz
    obtain ⟨v, rfl, h⟩ := rqAll1 hx
    obtain ⟨a, ys, rfl, ra, na, la, qa⟩ := rq_tup h
    exact ⟨a, ys, rfl, .inr ⟨.inl ra, k.rp (.tup ra na la qa)⟩⟩
  · cases hz
def intOfD : List D → Option D
  | [.int i] => some (.int i)
  | [.bool b] => some (.int (if b = true then 1 else 0))
  | _ => none
theorem pv_int {B : Bs} : PVn B (fun xs H Q => (∃ i, xs = [.int i] ∧ Q (.int i) H) ∨ ∃ k, xs = [.bl k] ∧ Q (.int (if k then 1 else 0)) H) .fz intOfD := by
  intro xs ds H W Q z hx hz hW k
  unfold intOfD at hz
  split at hz
  · cases hz
    obtain ⟨v, rfl, h⟩ := rqAll1 hx
    exact .inl ⟨_, by rw [rq_int h], k.int⟩
  · cases hz
    obtain ⟨v, rfl, h⟩ := rqAll1 hx
    exact .inr ⟨_, by rw [rq_bool h], k.int⟩
  · cases hz
def strOfD : List D → Option D
  | [.int i] => if (decide (i.natAbs.log2 < 1920) && decide ((toString i : Str).length ≤ lim)) = true then some (.str (toString i)) else none
  | _ => none
theorem pv_str {B : Bs} : PVn B (fun xs H Q => ∃ i, xs = [.int i] ∧ i.natAbs.log2 < 1920 ∧ Q (.str (toString i)) H) .fz strOfD := by
  intro xs ds H W Q z hx hz hW k
  unfold strOfD at hz
  split at hz
  · split at hz
    · rename_i i h
      simp only [Bool.and_eq_true, decide_eq_true_eq] at h
      cases hz
      obtain ⟨v, rfl, h'⟩ := rqAll1 hx
      exact ⟨i, by rw [rq_int h'], h.1, k.str h.2⟩
    · cases hz
  · cases hz

/-! ### sorted -/
def dleD (a b : D) : Bool := !PySem.W.dataLt b a
def neTup : D → Bool
  | .tuple (_ :: _) => true
  | _ => false
def noTup : D → Bool
  | .tuple _ => false
  | .none => false
  | _ => true
def sortOk (ds : List D) : Bool := ds.all (fun a => SeqAt.shaped a) && ds.all (fun a => ds.all fun b => PySem.W.alike a b) && (ds.all neTup || ds.all noTup)
def sortD : List D → Option D
  | [.list ds] => if sortOk ds = true then some (.list (ds.mergeSort dleD)) else none
  | _ => none
/-- sorted of data -/
def rSortD (B : Bs) : List V → Hp → VK → Prop := fun xs H Q => ∃ (a : Addr) (ys : List V) (ds : List D) (W : Wr), xs = [.ref a] ∧ Rm B H a ys ∧ RpAll B H W ys ds ∧ sortOk ds = true ∧ ∀ zs p, RpAll B H W zs (ds.mergeSort dleD) → H p = none → Q (.ref p) (upd H p (.lst zs))
theorem EachIs.paired {R : Value → V × D → Prop} : ∀ {us : List Value} {ps : List (V × D)}, PySem.W.EachIs R us ps → (∀ u p, R u p → RelV p.1 u) → Vals (ps.map (·.1)) us
  | _, _, .nil, _ => .nil
  | _, _, .cons a b, h => .cons (h _ _ a) (EachIs.paired b h)
theorem each_of {B : Bs} {H : Hp} {W : Wr} : ∀ {ys : List V} {ds : List D} {us : List Value}, RpAll B H W ys ds → Vals ys us → PySem.W.EachIs (fun u (p : V × D) => RelV p.1 u) us (ys.zip ds)
  | _, [], _, h, r => by cases h; cases r; exact .nil
  | _, _ :: _, _, h, r => by
    cases h with
    | cons a b => cases r with | cons r1 r2 => exact .cons r1 (each_of b r2)
theorem zip_rp {B : Bs} {H : Hp} {W : Wr} : ∀ {ys : List V} {ds : List D}, RpAll B H W ys ds → ∀ p ∈ ys.zip ds, Rp B H W p.1 p.2
  | _, [], h, p, q => by cases h; simp at q
  | _, _ :: _, h, p, q => by
    cases h with
    | cons a b =>
      rw [List.zip_cons_cons] at q
      rcases List.mem_cons.mp q with rfl | q
      · exact a
      · exact zip_rp b p q
theorem rp_of_pairs {B : Bs} {H : Hp} {W : Wr} : ∀ {ps : List (V × D)}, (∀ p ∈ ps, Rp B H W p.1 p.2) → RpAll B H W (ps.map (·.1)) (ps.map (·.2))
  | [], _ => .nil
  | p :: ps, h => .cons (h p List.mem_cons_self) (rp_of_pairs fun q z => h q (List.mem_cons_of_mem _ z))
theorem zip_snd {B : Bs} {H : Hp} {W : Wr} : ∀ {ys : List V} {ds : List D}, RpAll B H W ys ds → (ys.zip ds).map (·.2) = ds
  | _, [], h => by cases h; rfl
  | _, _ :: _, h => by cases h with | cons a b => simp [zip_snd b]
theorem cr_sortD {X : Cx} (hu : X.A.units + 70 < cLine) : CallR X (.builtin "sorted") (rSortD (BOf X)) := by
  intro pins s σ H vs us Q I r h
  obtain ⟨a, ys, ds, W, rfl, hs, rp, ok, q⟩ := h
  rw [Vals.ref1 r]
  obtain ⟨its, rv, hl, hz⟩ := I.list (show SqL X.K H a ys from hs.sq)
  have ok' := ok
  unfold sortOk at ok'
  simp only [Bool.and_eq_true, List.all_eq_true, Bool.or_eq_true] at ok'
  obtain ⟨⟨shp, alk⟩, ht⟩ := ok'
  have lay : ∀ d ∈ ds, d.canLay0 = true := fun d hd => SeqAt.canLay_of_shaped (shp d hd)
  have dpt : ∀ d ∈ ds, d.depth ≤ 64 := fun d hd => of_decide_eq_true (Bool.and_eq_true_iff.mp (shp d hd)).2
  -- the values read as the data, in any heap that keeps all that stands
  have reads : ∀ h' : Heap, (∀ b o, s.heap.get? b = some o → h'.get? b = some o) → PySem.W.EachIs (fun v d => ∃ as, Reads h' v d as) its ds := by
    intro h' kh
    have go : ∀ {ys : List V} {ds : List D} {us : List Value}, (∀ d ∈ ds, d.canLay0 = true) → RpAll (BOf X) H W ys ds → Vals ys us → PySem.W.EachIs (fun v d => ∃ as, Reads h' v d as) us ds := by
      intro ys ds us hl
      induction ds generalizing ys us with
      | nil => intro h r; cases h; cases r; exact .nil
      | cons d ds ih =>
        intro h r
        cases h with
        | cons a b =>
          cases r with
          | cons r1 r2 =>
            obtain ⟨as, e⟩ := Dp.reads I d _ _ (Rp.dp d (hl d List.mem_cons_self) a) r1
            exact .cons ⟨as, Reads.keeps kh e⟩ (ih (fun d hd => hl d (List.mem_cons_of_mem _ hd)) b r2)
    exact go lay rp rv
  have k1 : ∀ b o, s.heap.get? b = some o → (PySem.W.sortingHeap (PySem.W.copyHeap s.heap its) (s.heap.objs.size + 1) its).get? b = some o := fun b o e =>
    PySem.W.sortingHeap_old (Nat.ne_of_lt (Nat.lt_succ_of_lt (Heap.lt_size e))) (PySem.W.copyHeap_old e)
  have E1 := reads _ k1
  have S : PySem.W.SortsAt X.prog X.w X.A.in1.in1 { s with heap := PySem.W.sortingHeap (PySem.W.copyHeap s.heap its) (s.heap.objs.size + 1) its } (PySem.W.dataKind (PySem.W.sortingHeap (PySem.W.copyHeap s.heap its) (s.heap.objs.size + 1) its) ds) its := by
    refine PySem.W.SortsAt.data E1 (fun d hd d' hd' => alk d hd d' hd') ?_ fun d hd => ?_
    · rcases ht with ht | ht
      · left
        intro d hd
        have := ht d hd
        cases d with
        | tuple xs =>
          cases xs with
          | nil => cases this
          | cons x r => exact ⟨x, r, rfl⟩
        | _ => cases this
      · right
        intro d hd
        have := ht d hd
        refine ⟨fun e => ?_, fun xs e => ?_⟩
        · subst e; cases this
        · subst e; cases this
    · have := dpt d hd
      simp only [Around.in1_units]
      omega
  have hl2 := rv.length
  refine PySem.W.sorted_vals hl.isList S (by omega) ?_
  -- the pairs, sorted
  have ep := PySem.W.sortVals_each (κ := PySem.W.dataKind (PySem.W.sortingHeap (PySem.W.copyHeap s.heap its) (s.heap.objs.size + 1) its) ds) (rev := false) (R := fun u (p : V × D) => RelV p.1 u) (ks := its) (vs := its) (bs := ys.zip ds) (fun p => PySem.W.keyToks p.2) (each_of rp rv) ?_
  · generalize hP : (ys.zip ds).mergeSort _ = ps at ep
    have hperm : ps.Perm (ys.zip ds) := by rw [← hP]; exact List.mergeSort_perm _ _
    have rp2 : RpAll (BOf X) H W (ps.map (·.1)) (ps.map (·.2)) := rp_of_pairs fun p hp => zip_rp rp p (hperm.mem_iff.mp hp)
    have e2 : ps.map (·.2) = ds.mergeSort dleD := by
      rw [← hP]
      have := PySem.W.sort_maps (fun p : V × D => p.2) (r := PySem.W.sortLe (PySem.W.dataKind (PySem.W.sortingHeap (PySem.W.copyHeap s.heap its) (s.heap.objs.size + 1) its) ds).toKeyOrd false fun p : V × D => PySem.W.keyToks p.2) (s := dleD) (l := ys.zip ds) (fun a _ b _ => rfl)
      rw [this, zip_snd rp]
    rw [e2] at rp2
    have vals := EachIs.paired ep fun u p h => h
    generalize PySem.W.sortVals _ _ _ _ = outs at vals ep
    obtain ⟨n, at_⟩ := PyProof.Rows.sortedAll_at s.heap its outs.toArray
    have hlen : (ps.map (·.1)).length ≤ sizeLine := by
      rw [List.length_map, hperm.length_eq, List.length_zip]
      omega
    exact ⟨.ref _, upd H (s.heap.objs.size + 1) (.lst (ps.map (·.1))), I.laid (t' := s.toks) (fun _ _ => PyProof.Rows.sortedAll_old) (Nat.le_succ _) ⟨hlen, outs, n, vals, at_⟩, rfl, q _ _ rp2 (I.hok.fresh (Nat.le_succ _))⟩
  · have go : ∀ {us : List Value} {ys : List V} {es : List D}, (∀ d ∈ es, d ∈ ds) → ys.length = es.length → PySem.W.EachIs (fun v d => ∃ as, Reads (PySem.W.sortingHeap (PySem.W.copyHeap s.heap its) (s.heap.objs.size + 1) its) v d as) us es →
        PySem.W.EachIs (fun v (b : V × D) => (PySem.W.dataKind (PySem.W.sortingHeap (PySem.W.copyHeap s.heap its) (s.heap.objs.size + 1) its) ds).keyOf v = some (PySem.W.keyToks b.2)) us (ys.zip es) := by
      intro us ys es hm hl e
      induction e generalizing ys with
      | nil => simpa using .nil
      | cons x _ ih =>
        cases ys with
        | nil => simp at hl
        | cons y ys =>
          obtain ⟨as, x⟩ := x
          rw [List.zip_cons_cons]
          exact .cons (PySem.W.dataKind_some (fun d hd d' hd' => alk d hd d' hd') (hm _ List.mem_cons_self) x) (ih (fun d hd => hm d (List.mem_cons_of_mem _ hd)) (by simpa using hl))
    exact go (fun d hd => hd) rp.length E1
theorem pv_sort {B : Bs} : PVn B (rSortD B) (.lst .fz) sortD := by
  intro xs ds H W Q z hx hz hW k
  unfold sortD at hz
  split at hz
  · split at hz
    · rename_i es ok
      cases hz
      obtain ⟨v, rfl, h⟩ := rqAll1 hx
      obtain ⟨a, ys, rfl, ra, la, qa⟩ := rq_list h
      exact ⟨a, ys, es, W, rfl, ra, qa, ok, fun zs p r hp => k.lst hp r (by rw [List.length_mergeSort]; exact la)⟩
    · cases hz
  · cases hz
end PD

set_option Elab.async false
set_option linter.all false
set_option maxRecDepth 100000
set_option maxHeartbeats 4000000
/-! PDg: targets, what is walked, list comprehensions. -/
namespace PD
open PySem PySem.Spec PyProof.Rows L2 RZ

def Sg.wO (G : Sg) (O : Wr) : Sg := { G with O := O }

/-! ### targets -/
inductive Tg where
  | nm (i : Nat)
  | tp (ts : List Tg)
mutual
def bindT : Tg → D → Env → Option Env
  | .nm i, d, ρ => if i < ρ.length then some (ρ.set i (some d)) else none
  | .tp ts, .tuple ds, ρ => bindTs ts ds ρ
  | .tp _, _, _ => none
def bindTs : List Tg → List D → Env → Option Env
  | [], [], ρ => some ρ
  | t :: ts, d :: ds, ρ => (bindT t d ρ).bind fun ρ' => bindTs ts ds ρ'
  | _, _, _ => none
end
mutual
def Tg.slots : Tg → List Nat
  | .nm i => [i]
  | .tp ts => slotsL ts
def slotsL : List Tg → List Nat
  | [] => []
  | t :: ts => t.slots ++ slotsL ts
end
theorem bindTs_len : ∀ {ts : List Tg} {ds : List D} {ρ ρ' : Env}, bindTs ts ds ρ = some ρ' → ts.length = ds.length
  | [], [], _, _, _ => rfl
  | t :: ts, d :: ds, ρ, ρ', h => by
    unfold bindTs at h
    obtain ⟨r, _, h2⟩ := Option.bind_eq_some_iff.mp h
    simp [bindTs_len h2]
  | [], _ :: _, _, _, h => by simp [bindTs] at h
  | _ :: _, [], _, _, h => by simp [bindTs] at h
section
variable {G : Sg} {σ : L2.St} {ρ : Env} {H : Hp} {F : Nat → List Addr}
theorem EnvOk.setFz {i : Nat} {v : V} {d : D} (E : EnvOk G σ ρ H F) (r : Rp G.B H (Wof F G.O) v d) (hf : G.Γ i = .fz) (hp : G.pin i = none) (hi : i < ρ.length) : EnvOk G (σ.set i (some v)) (ρ.set i (some d)) H F := by
  have e0 : F i = [] := E.ff i hf
  have eF : updF F i [] = F := by
    funext j
    by_cases e : j = i
    · subst e; rw [updF_same, e0]
    · rw [updF_ne e]
  have q := EnvOk.setOwn (G := G) (Fl := []) (i := i) (v := v) (d := d) (by rw [Sg.add_nil]; exact E) (by rw [Sg.add_nil, hf]; exact .fz r) List.nodup_nil (fun _ z => nomatch z) hp hi
  rw [eF] at q
  exact q
end
/-- a target's reading: what is bound is frozen -/
def tG (G : Sg) (T : Tg) : TG := fun v σ H Q => ∃ F ρ d ρ', EnvOk G σ ρ H F ∧ Rp G.B H (Wof F G.O) v d ∧ bindT T d ρ = some ρ' ∧ ∀ σ', EnvOk G σ' ρ' H F → σ'.length = σ.length → (∀ j, j ∉ T.slots → σ'[j]? = σ[j]?) → Q σ' H
def tGs (G : Sg) (Ts : List Tg) : TGs := fun vs σ H Q => ∃ F ρ ds ρ', EnvOk G σ ρ H F ∧ RpAll G.B H (Wof F G.O) vs ds ∧ bindTs Ts ds ρ = some ρ' ∧ ∀ σ', EnvOk G σ' ρ' H F → σ'.length = σ.length → (∀ j, j ∉ slotsL Ts → σ'[j]? = σ[j]?) → Q σ' H
abbrev DG (X : Cx) (G : Sg) (e : Expr) (T : Tg) : Prop := PG X e (tG G T)
abbrev DGs (X : Cx) (G : Sg) (es : List Expr) (Ts : List Tg) : Prop := PGs X es (tGs G Ts)
theorem PG.imp {X : Cx} {e : Expr} {t t' : TG} (h : PG X e t) (i : ∀ v σ H Q, t' v σ H Q → t v σ H Q) : PG X e t' := ⟨fun pins s σ H v u Q I r w => h.run pins s σ H v u Q I r (i v σ H Q w)⟩
theorem PGs.imp {X : Cx} {e : List Expr} {t t' : TGs} (h : PGs X e t) (i : ∀ v σ H Q, t' v σ H Q → t v σ H Q) : PGs X e t' := ⟨fun pins s σ H v u Q I r w => h.run pins s σ H v u Q I r (i v σ H Q w)⟩
section
variable {X : Cx} {G : Sg} {e : Expr} {es : List Expr} {x : Str} {i : Nat} {pos : Pos} {T : Tg} {Ts : List Tg}
theorem dg_name (hN : X.N.Nodup) (hi : X.N[i]? = some x) (hx : Loc X.env.scope x) (hf : G.Γ i = .fz) (hp : G.pin i = none) (hf' : X.fn x = true ∨ X.env.scope.names.lookup x = some .local) : DG X G (.Name x pos) (.nm i) :=
  PG.imp (pg_name hN hi hx hf') fun v σ H Q ⟨F, ρ, d, ρ', E, r, b, k⟩ => by
    unfold bindT at b
    split at b
    · rename_i hlt
      cases b
      exact k _ (E.setFz r hf hp hlt) (by simp) fun j hj => List.getElem?_set_ne (fun q => hj (by simp [Tg.slots, q]))
    · cases b
theorem dgs_nil : DGs X G [] [] := PGs.imp pgs_nil fun vs σ H Q ⟨F, ρ, ds, ρ', E, r, b, k⟩ => by
  cases ds with
  | nil =>
    cases r
    have b : some ρ = some ρ' := by simpa [bindTs] using b
    cases b
    exact ⟨rfl, k σ E rfl fun _ _ => rfl⟩
  | cons _ _ => simp [bindTs] at b
theorem dgs_cons (h1 : DG X G e T) (h2 : DGs X G es Ts) (hs : (assignEach (e :: es) X.env).map (·.2) = assign e X.env :: (assignEach es X.env).map (·.2) := by rfl) : DGs X G (e :: es) (T :: Ts) :=
  PGs.imp (pgs_cons h1 h2 hs) fun vs σ H Q ⟨F, ρ, ds, ρ', E, r, b, k⟩ => by
    cases ds with
    | nil => simp [bindTs] at b
    | cons d ds =>
      cases r with
      | cons r1 r2 =>
        unfold bindTs at b
        obtain ⟨ρ1, b1, b2⟩ := Option.bind_eq_some_iff.mp b
        refine ⟨_, _, rfl, F, ρ, d, ρ1, E, r1, b1, fun σ1 E1 l1 q1 => ⟨F, ρ1, ds, ρ', E1, r2, b2, fun σ2 E2 l2 q2 => k σ2 E2 (l2.trans l1) fun j hj => ?_⟩⟩
        simp only [slotsL, List.mem_append, not_or] at hj
        rw [q2 j hj.2, q1 j hj.1]
theorem dg_tup {k n : Nat} (hc : X.calm = true) (h : DGs X G es Ts) (hn : (assignEach es X.env).length = n) (hst : (assignEach es X.env).findIdx? (·.1) = none) (hl : Ts.length = n) : DG X G (.Tuple es k pos) (.tp Ts) :=
  PG.imp (pg_tup hc h hn hst) fun v σ H Q ⟨F, ρ, d, ρ', E, r, b, kk⟩ => by
    cases d with
    | tuple ds =>
      cases r with
      | tup rd nw l q =>
        have b' : bindTs Ts ds ρ = some ρ' := by simpa [bindT] using b
        exact ⟨_, _, rfl, .inl rd, by rw [q.length, ← bindTs_len b', hl], F, ρ, ds, ρ', E, q, b', fun σ' E' l' q' => kk σ' E' l' (by simpa [Tg.slots] using q')⟩
    | _ => simp [bindT] at b
end

/-! ### what is walked -/
def Walks (G : Sg) (J : It) (ds : List D) (H1 : Hp) (F1 : Nat → List Addr) : Prop :=
  ∀ (P : Wr) H' F', (∀ a, P a → H1 a = none) → Evo H1 F1 H' F' [] → (∀ a, Wof F' (fun a => G.O a ∨ P a) a → ∃ o, H' a = some o) → ∀ i,
    (i < ds.length → J.go i H' ∧ ∀ x H'', J.yld i H' x H'' → Ext H' H'' ∧ ∃ d, ds[i]? = some d ∧ Rp G.B H'' (Wof F' (fun a => G.O a ∨ P a)) x d) ∧ (ds.length ≤ i → J.stop i H')
def tI (G : Sg) (W : WX) (f : Env → Res (List D)) : TI := fun σ H R => ∃ F ρ, EnvOk G σ ρ H F ∧
  Go G W σ (f ρ) H F fun ds _ H' F' Fl => Fl = [] → ds.length ≤ lim → ∀ J, Walks G J ds H' F' → R J H'
abbrev DI (X : Cx) (G : Sg) (W : WX) (tg iter : Expr) (f : Env → Res (List D)) : Prop := PI X tg iter (tI G W f)
theorem PI.imp {X : Cx} {tg e : Expr} {t t' : TI} (h : PI X tg e t) (i : ∀ σ H Q, t' σ H Q → t σ H Q) : PI X tg e t' := ⟨fun pins s σ H Q I w => h.run pins s σ H Q I (i σ H Q w)⟩
def chD (c : Nat) : D := .str ⟨#[c]⟩
/-- the items of a thing that is walked -/
def itemsD : D → Option (List D)
  | .list ds => some ds
  | .tuple ds => some ds
  | .str x => some (x.cps.toList.map chD)
  | _ => none
def iOf (f : Env → Res D) : Env → Res (List D) := fun ρ => bnd (f ρ) fun d ρ1 => ofO (itemsD d) ρ1
def rgD (a b : Int) : List D := (List.range (b - a).toNat).map fun i => .int (a + (i : Nat))
def rgOk (a b : Int) : Bool := decide (-(2 ^ 62) ≤ a) && decide (a < 2 ^ 62) && decide (-(2 ^ 62) ≤ b) && decide (b < 2 ^ 62) && decide ((b - a).toNat ≤ lim)
def rgItems : D → D → Option (List D)
  | .int a, .int b => if rgOk a b = true then some (rgD a b) else none
  | _, _ => none
def iRg1 (f : Env → Res D) : Env → Res (List D) := fun ρ => bnd (f ρ) fun d ρ1 => ofO (rgItems (.int 0) d) ρ1
def iRg2 (f g : Env → Res D) : Env → Res (List D) := fun ρ => bnd (f ρ) fun d ρ1 => bnd (g ρ1) fun e ρ2 => ofO (rgItems d e) ρ2
def zipD (a b : List D) : List D := (a.zip b).map fun p => .tuple [p.1, p.2]
def zipItems : D → D → Option (List D)
  | .list a, .list b => some (zipD a b)
  | .tuple a, .tuple b => some (zipD a b)
  | _, _ => none
def iZipD (f g : Env → Res D) : Env → Res (List D) := fun ρ => bnd (f ρ) fun d ρ1 => bnd (g ρ1) fun e ρ2 => ofO (zipItems d e) ρ2
theorem zipD_at {a b : List D} {i : Nat} (h1 : i < a.length) (h2 : i < b.length) : (zipD a b)[i]? = some (.tuple [a[i], b[i]]) := by
  unfold zipD
  rw [List.getElem?_map, (List.getElem?_zip_eq_some (z := (a[i], b[i]))).mpr ⟨List.getElem?_eq_getElem h1, List.getElem?_eq_getElem h2⟩]
  rfl
def enumD (ds : List D) : List D := (ds.zipIdx).map fun p => .tuple [.int (p.2 : Nat), p.1]
section
variable {G : Sg} {H1 : Hp} {F1 : Nat → List Addr}
theorem Rp.walk {P : Wr} {H' : Hp} {F' : Nat → List Addr} {v : V} {d : D} (r : Rp G.B H1 (Wof F1 G.O) v d) (hP : ∀ a, P a → H1 a = none) (e : Evo H1 F1 H' F' []) : Rp G.B H' (Wof F' fun a => G.O a ∨ P a) v d :=
  Rp.keep e.k1 (fun a z => by
    rcases z with z | z | z
    · exact (e.new a (.inl z)).imp .inl id
    · exact .inl (.inr z)
    · exact .inr (hP a z)) d r
theorem Rl.evo {B : Bs} {O : Wr} {H H' : Hp} {F F' : Nat → List Addr} {Fl : List Addr} {a : Addr} {xs : List V} (r : Rl B H (Wof F O) a xs) (e : Evo H F H' F' Fl) : SqL B.2.2 H' a xs := by
  rcases r with ⟨rd, nw⟩ | k
  · exact .inl (rd_keep rd fun o z => e.k1 a o z nw)
  · exact k.sq
theorem walks_list {a : Addr} {xs : List V} {ds : List D} (rd : Rl G.B H1 (Wof F1 G.O) a xs) (q : RpAll G.B H1 (Wof F1 G.O) xs ds) : Walks G (Itl G.B.2.2 a) ds H1 F1 := by
  intro P H' F' hP e hW i
  have s' : SqL G.B.2.2 H' a xs := rd.evo e
  refine ⟨fun hi => ?_, fun hi => ⟨xs, s', by rw [q.length]; exact hi⟩⟩
  obtain ⟨v, hv, r⟩ := q.get (List.getElem?_eq_getElem hi)
  refine ⟨⟨xs, v, s', hv⟩, fun x H'' ⟨eH, hx⟩ => ?_⟩
  subst eH
  have := hx xs s'
  rw [hv] at this
  cases this
  exact ⟨fun _ _ z => z, ds[i], List.getElem?_eq_getElem hi, r.walk hP e⟩
theorem walks_tup {K : PySem.W.Frag} {a : Addr} {xs : List V} {ds : List D} (rd : Rd H1 a (.tup xs)) (nw : ¬ Wof F1 G.O a) (q : RpAll G.B H1 (Wof F1 G.O) xs ds) : Walks G (Itt K a) ds H1 F1 := by
  intro P H' F' hP e hW i
  have s' : SqT K H' a xs := .inl (rd_keep rd fun o z => e.k1 a o z nw)
  refine ⟨fun hi => ?_, fun hi => ⟨xs, s', by rw [q.length]; exact hi⟩⟩
  obtain ⟨v, hv, r⟩ := q.get (List.getElem?_eq_getElem hi)
  refine ⟨⟨xs, v, s', hv⟩, fun x H'' ⟨eH, hx⟩ => ?_⟩
  subst eH
  have := hx xs s'
  rw [hv] at this
  cases this
  exact ⟨fun _ _ z => z, ds[i], List.getElem?_eq_getElem hi, r.walk hP e⟩
theorem walks_str {x : Str} : Walks G (Its x) (x.cps.toList.map chD) H1 F1 := by
  intro P H' F' hP e hW i
  have hl : (x.cps.toList.map chD).length = x.cps.size := by simp
  refine ⟨fun hi => ⟨by rw [hl] at hi; exact hi, fun v H'' ⟨eH, c, hc, hv⟩ => ?_⟩, fun hi => by rw [hl] at hi; exact hi⟩
  subst eH
  subst hv
  exact ⟨fun _ _ z => z, chD c, by rw [List.getElem?_map, Array.getElem?_toList, hc]; rfl, .str (show 1 ≤ lim by decide)⟩
theorem walks_rng {a b : Int} : Walks G (Itr a (b - a).toNat) (rgD a b) H1 F1 := by
  intro P H' F' hP e hW i
  have hl : (rgD a b).length = (b - a).toNat := by simp [rgD]
  refine ⟨fun hi => ⟨by rw [hl] at hi; exact hi, fun v H'' ⟨eH, hv⟩ => ?_⟩, fun hi => by rw [hl] at hi; exact hi⟩
  subst eH
  subst hv
  refine ⟨fun _ _ z => z, .int (a + i), ?_, .int _⟩
  rw [hl] at hi
  simp [rgD, hi]
theorem new_pair {B : Bs} {H' : Hp} {W : Wr} {p : Addr} {x y : V} {d e : D} (hW : ∀ a, W a → ∃ o, H' a = some o) (hp : H' p = none) (r1 : Rp B H' W x d) (r2 : Rp B H' W y e) : Rp B (upd H' p (.tup [x, y])) W (.ref p) (.tuple [d, e]) :=
  .tup (.inl upd_same) (fun q => by
    obtain ⟨o, z⟩ := hW p q
    rw [hp] at z; cases z) (show 2 ≤ lim by decide) (.cons (r1.ext (ext_upd hp)) (.cons (r2.ext (ext_upd hp)) .nil))
theorem walks_zipL {a b : Addr} {xs ys : List V} {ds es : List D} (rd : Rl G.B H1 (Wof F1 G.O) a xs) (q : RpAll G.B H1 (Wof F1 G.O) xs ds) (rd' : Rl G.B H1 (Wof F1 G.O) b ys) (q' : RpAll G.B H1 (Wof F1 G.O) ys es) : Walks G (Itz G.B.2.2 a b) (zipD ds es) H1 F1 := by
  intro P H' F' hP e hW i
  have s' : SqL G.B.2.2 H' a xs := rd.evo e
  have s2 : SqL G.B.2.2 H' b ys := rd'.evo e
  have hl : (zipD ds es).length = min ds.length es.length := by simp [zipD]
  refine ⟨fun hi => ?_, fun hi => ⟨xs, ys, s', s2, by rw [q.length, q'.length]; omega⟩⟩
  have h1 : i < ds.length := by omega
  have h2 : i < es.length := by omega
  obtain ⟨v, hv, r⟩ := q.get (List.getElem?_eq_getElem h1)
  obtain ⟨u, hu, r'⟩ := q'.get (List.getElem?_eq_getElem h2)
  refine ⟨⟨xs, ys, v, u, s', s2, hv, hu⟩, fun x H'' ⟨T, x1, x2, ex, hT, eH, k1, k2⟩ => ?_⟩
  have z1 := k1 xs s'
  have z2 := k2 ys s2
  rw [hv] at z1
  rw [hu] at z2
  cases z1; cases z2
  subst ex
  subst eH
  exact ⟨ext_upd hT, .tuple [ds[i], es[i]], zipD_at h1 h2, new_pair hW hT (r.walk hP e) (r'.walk hP e)⟩
theorem walks_zipT {K : PySem.W.Frag} {a b : Addr} {xs ys : List V} {ds es : List D} (rd : Rd H1 a (.tup xs)) (nw : ¬ Wof F1 G.O a) (q : RpAll G.B H1 (Wof F1 G.O) xs ds) (rd' : Rd H1 b (.tup ys)) (nw' : ¬ Wof F1 G.O b) (q' : RpAll G.B H1 (Wof F1 G.O) ys es) : Walks G (ItzT K a b) (zipD ds es) H1 F1 := by
  intro P H' F' hP e hW i
  have s' : SqT K H' a xs := .inl (rd_keep rd fun o z => e.k1 a o z nw)
  have s2 : SqT K H' b ys := .inl (rd_keep rd' fun o z => e.k1 b o z nw')
  have hl : (zipD ds es).length = min ds.length es.length := by simp [zipD]
  refine ⟨fun hi => ?_, fun hi => ⟨xs, ys, s', s2, by rw [q.length, q'.length]; omega⟩⟩
  have h1 : i < ds.length := by omega
  have h2 : i < es.length := by omega
  obtain ⟨v, hv, r⟩ := q.get (List.getElem?_eq_getElem h1)
  obtain ⟨u, hu, r'⟩ := q'.get (List.getElem?_eq_getElem h2)
  refine ⟨⟨xs, ys, v, u, s', s2, hv, hu⟩, fun x H'' ⟨T, x1, x2, ex, hT, eH, k1, k2⟩ => ?_⟩
  have z1 := k1 xs s'
  have z2 := k2 ys s2
  rw [hv] at z1
  rw [hu] at z2
  cases z1; cases z2
  subst ex
  subst eH
  exact ⟨ext_upd hT, .tuple [ds[i], es[i]], zipD_at h1 h2, new_pair hW hT (r.walk hP e) (r'.walk hP e)⟩
end
section
variable {X : Cx} {G : Sg} {W : WX} {tg e e2 : Expr} {f g : Env → Res D} {pos p : Pos}
/-- a list, a tuple or a text walked: whichever it is -/
theorem pi_any {te : TE} (he : PE X e te) : PI X tg e fun σ H R => te σ H fun x H1 => (∃ a, x = .ref a ∧ (∃ xs, SqL X.K H1 a xs) ∧ R (Itl X.K a) H1) ∨ (∃ a, x = .ref a ∧ (∃ xs, SqT X.K H1 a xs) ∧ R (Itt X.K a) H1) ∨ ∃ z, x = .str z ∧ R (Its z) H1 := by
  have key : ∀ (v : V), PE X e (fun σ H Q => te σ H fun x H1 => Q x H1) := fun _ => he
  refine ⟨fun pins s σ H R I h => ?_⟩
  refine thn (he.run pins s σ H _ I h) fun v s1 ⟨x, H1, I1, r1, q1⟩ => ?_
  rcases q1 with ⟨a, rfl, ⟨xs, hq⟩, q⟩ | ⟨a, rfl, ⟨xs, hq⟩, q⟩ | ⟨z, rfl, q⟩
  · cases r1
    obtain ⟨its, rv, p, hz⟩ := I1.list hq
    refine wpAny_pyIter_list p.isList ⟨s1.heap.objs.size, [s1.heap.objs.size], _, _, H1, rfl, I1.kept (t' := s1.toks) fun b o e => Heap.get?_push_of_some _ e, turn_list a _, ⟨_, Heap.get?_push_size _ rfl, rfl, rfl⟩, fun b hb => ?_, q⟩
    rw [List.mem_singleton.mp hb]
    exact I1.fpOk (Nat.le_refl _) (I1.hok.fresh (Nat.le_refl _))
  · cases r1
    obtain ⟨its, rv, p, hz⟩ := I1.tuple hq
    refine wpAny_pyIter_tuple (show s1.heap.IsTuple a its.toArray from p) ⟨s1.heap.objs.size, [s1.heap.objs.size], _, _, H1, rfl, I1.kept (t' := s1.toks) fun b o e => Heap.get?_push_of_some _ e, turn_tuple a _, ⟨_, Heap.get?_push_size _ rfl, rfl, rfl⟩, fun b hb => ?_, q⟩
    rw [List.mem_singleton.mp hb]
    exact I1.fpOk (Nat.le_refl _) (I1.hok.fresh (Nat.le_refl _))
  · obtain ⟨t, rfl⟩ := r1
    cases ha : z.cps.all (· < 128)
    · exact wpAny_pyIter_wide ha (pi_one (tk := s1.toks) I1 _ (turn_str _ z t "str_iterator" (.inr rfl)) ⟨_, Heap.get?_push_size _ rfl, rfl, rfl⟩ q)
    · exact wpAny_pyIter_ascii ha (pi_one (tk := s1.toks) I1 _ (turn_str _ z t "str_ascii_iterator" (.inl rfl)) ⟨_, Heap.get?_push_size _ rfl, rfl, rfl⟩ q)
theorem di_of (hB : G.B.2.2 = X.K) (h : DX X G W .fz e f) : DI X G W tg e (iOf f) := PI.imp (pi_any h) fun σ H R ⟨F, ρ, E, g⟩ => tX_bind E g fun v d ρ1 H1 F1 E1 r g1 _ => by
  cases d with
  | list ds =>
    cases r with
    | lst rd l q => rw [← hB]; exact .inl ⟨_, rfl, ⟨_, rd.rm.sq⟩, Go.done g1 E1 rfl l _ (walks_list rd q)⟩
  | tuple ds =>
    cases r with
    | tup rd nw l q => exact .inr (.inl ⟨_, rfl, ⟨_, .inl rd⟩, Go.done g1 E1 rfl l _ (walks_tup rd nw q)⟩)
  | str x =>
    cases r with
    | str l => exact .inr (.inr ⟨_, rfl, Go.done g1 E1 rfl (by simpa [Str.length] using l) _ walks_str⟩)
  | _ => exact g1.elim
theorem rgOk_of {a b : Int} (h : rgOk a b = true) : -(2 ^ 62) ≤ a ∧ a < 2 ^ 62 ∧ -(2 ^ 62) ≤ b ∧ b < 2 ^ 62 ∧ (b - a).toNat ≤ lim := by
  unfold rgOk at h
  simp only [Bool.and_eq_true, decide_eq_true_eq] at h
  exact ⟨h.1.1.1.1, h.1.1.1.2, h.1.1.2, h.1.2, h.2⟩
theorem rgD_len (a b : Int) : (rgD a b).length = (b - a).toNat := by simp [rgD]
theorem pa_one {t : TE} (he : PE X e t) (hs : starEach (e :: []) X.env = (false, eval e X.env) :: starEach [] X.env := by rfl) : PA X [e] (tCons t tNil) := pa_cons he pa_nil hs
theorem di_range1 (hg : Gl X "range") (hm : X.mg "range" = none) (h : DX X G W .fz e f) (hs : starEach [e] X.env = [(false, eval e X.env)] := by rfl) : DI X G W tg (.Call (.Name "range" p) [e] [] pos) (iRg1 f) :=
  PI.imp (pi_range1 hg hm (pa_cons h pa_nil hs) hs) fun σ H R ⟨F, ρ, E, g⟩ => tX_bind E g fun v d ρ1 H1 F1 E1 r g1 _ => by
    cases d with
    | int b =>
      cases r
      unfold rgItems at g1
      simp only at g1
      split at g1
      · rename_i ok
        obtain ⟨q1, q2, q3, q4, q5⟩ := rgOk_of ok
        refine ⟨b, rfl, q3, q4, Go.done g1 E1 rfl (by rw [rgD_len]; exact q5) _ ?_⟩
        have := walks_rng (G := G) (H1 := H1) (F1 := F1) (a := 0) (b := b)
        rw [Int.sub_zero] at this
        exact this
      · exact g1.elim
    | _ => exact g1.elim
theorem di_range2 (hg : Gl X "range") (hm : X.mg "range" = none) (h : DX X G W .fz e f) (h2 : DX X G W .fz e2 g) (hs : starEach [e, e2] X.env = (false, eval e X.env) :: starEach [e2] X.env := by rfl) (hs2 : starEach [e2] X.env = (false, eval e2 X.env) :: starEach [] X.env := by rfl) (hs3 : starEach [e, e2] X.env = [(false, eval e X.env), (false, eval e2 X.env)] := by rfl) (hs4 : starEach [e2] X.env = [(false, eval e2 X.env)] := by rfl) :
    DI X G W tg (.Call (.Name "range" p) [e, e2] [] pos) (iRg2 f g) :=
  PI.imp (pi_range2 hg hm (pa_cons h (pa_cons h2 pa_nil hs2) hs) hs3 hs4) fun σ H R ⟨F, ρ, E, g⟩ => tX_bind E g fun v d ρ1 H1 F1 E1 r g1 _ => tX_bind E1 g1 fun u d2 ρ2 H2 F2 E2 r2 g2 v2 => by
    cases d with
    | int a =>
      cases d2 with
      | int b =>
        cases r
        cases r2
        unfold rgItems at g2
        simp only at g2
        split at g2
        · rename_i ok
          obtain ⟨q1, q2, q3, q4, q5⟩ := rgOk_of ok
          exact ⟨a, b, rfl, ⟨q1, q2, q3, q4⟩, Go.done g2 E2 rfl (by rw [rgD_len]; exact q5) _ walks_rng⟩
        · exact g2.elim
      | _ => exact g2.elim
    | _ => exact g2.elim
theorem di_zip {elts : List Expr} {kk : Nat} {tpos : Pos} (hB : G.B.2.2 = X.K) (hg : Gl X "zip") (hm : X.mg "zip" = none) (h : DX X G W .fz e f) (h2 : DX X G W .fz e2 g) (hs : starEach [e, e2] X.env = (false, eval e X.env) :: starEach [e2] X.env := by rfl) (hs2 : starEach [e2] X.env = (false, eval e2 X.env) :: starEach [] X.env := by rfl) (hpl : (backTo pos (starEach [e2] X.env)).any (·.1) = false := by rfl) :
    DI X G W (.Tuple elts kk tpos) (.Call (.Name "zip" p) [e, e2] [] pos) (iZipD f g) :=
  PI.imp (pi_zipA hg hm (pa_cons h (pa_cons h2 pa_nil hs2) hs) hs hpl) fun σ H R ⟨F, ρ, E, g⟩ => tX_bind E g fun v d ρ1 H1 F1 E1 r g1 _ => tX_bind E1 g1 fun u d2 ρ2 H2 F2 E2 r2 g2 v2 => by
    have r1' := r.evo v2
    cases d with
    | list ds =>
      cases d2 with
      | list es =>
        cases r1' with
        | lst rd l q =>
          cases r2 with
          | lst rd' l' q' => rw [← hB]; exact ⟨_, _, _, _, rfl, .inl ⟨rd.rm.sq, rd'.rm.sq, Go.done g2 E2 rfl (by simp [zipD]; omega) _ (walks_zipL rd q rd' q')⟩⟩
      | _ => exact g2.elim
    | tuple ds =>
      cases d2 with
      | tuple es =>
        cases r1' with
        | tup rd nw l q =>
          cases r2 with
          | tup rd' nw' l' q' => exact ⟨_, _, _, _, rfl, .inr ⟨.inl rd, .inl rd', Go.done g2 E2 rfl (by simp [zipD]; omega) _ (walks_zipT rd nw q rd' nw' q')⟩⟩
      | _ => exact g2.elim
    | _ => cases d2 <;> exact g2.elim
end
end PD

set_option Elab.async false
set_option linter.all false
set_option maxRecDepth 100000
set_option maxHeartbeats 4000000
/-! PDh: list comprehensions. -/
namespace PD
open PySem PySem.Spec PyProof.Rows L2 RZ

def wipeD (ρ : Env) : List Nat → Env
  | [] => ρ
  | v :: vs => (wipeD ρ vs).set v none
def resD (ρ0 : Env) (ρe : Env) : List Nat → Env
  | [] => ρe
  | v :: vs => (resD ρ0 ρe vs).set v ((ρ0[v]?).getD none)
def lcGo (T : Tg) (cond : Env → Res Bool) (elt : Env → Res D) (own : List Nat) : List D → Env → Res (List D)
  | [], ρ => .ok [] ρ
  | d :: ds, ρ => match bindT T d ρ with
    | none => .err
    | some ρ1 => bnd (cond ρ1) fun b ρ2 => if b = true then bnd (elt ρ2) fun y ρ3 => bnd (lcGo T cond elt own ds (wipeD ρ3 own)) fun ys ρ4 => .ok (y :: ys) ρ4
      else lcGo T cond elt own ds (wipeD ρ2 own)
def noX {α : Type} : Res α → Res α
  | .ok a ρ => .ok a ρ
  | _ => .err
def eLc (fi : Env → Res (List D)) (T : Tg) (cond : Env → Res Bool) (elt : Env → Res D) (own : List Nat) : Env → Res D := fun ρ => bnd (fi ρ) fun ds ρ1 => bnd (noX (lcGo T cond elt own ds (wipeD ρ1 own))) fun ys ρ2 => .ok (.list ys) (resD ρ1 ρ2 own)
def bYes : Env → Res Bool := fun ρ => .ok true ρ

theorem wipe_len (σ : L2.St) (vs : List Nat) : (wipe σ vs).length = σ.length := wipe_length σ vs
theorem wipeD_len (ρ : Env) : ∀ vs : List Nat, (wipeD ρ vs).length = ρ.length
  | [] => rfl
  | v :: vs => by unfold wipeD; rw [List.length_set, wipeD_len ρ vs]
theorem wipe_at_in (σ : L2.St) : ∀ (vs : List Nat) (j : Nat), j ∈ vs → j < σ.length → (wipe σ vs)[j]? = some none
  | v :: vs, j, h, hl => by
    unfold wipe
    by_cases e : v = j
    · subst e
      exact List.getElem?_set_self (by rw [wipe_len]; exact hl)
    · rw [List.getElem?_set_ne e]
      rcases List.mem_cons.mp h with h | h
      · exact absurd h.symm e
      · exact wipe_at_in σ vs j h hl
theorem wipe_at_out (σ : L2.St) : ∀ (vs : List Nat) (j : Nat), j ∉ vs → (wipe σ vs)[j]? = σ[j]?
  | [], _, _ => rfl
  | v :: vs, j, h => by
    unfold wipe
    simp only [List.mem_cons, not_or] at h
    rw [List.getElem?_set_ne (Ne.symm h.1)]
    exact wipe_at_out σ vs j h.2
theorem wipeD_at_in (ρ : Env) : ∀ (vs : List Nat) (j : Nat), j ∈ vs → (wipeD ρ vs)[j]? = some none ∨ (wipeD ρ vs)[j]? = none
  | v :: vs, j, h => by
    unfold wipeD
    by_cases e : v = j
    · subst e
      by_cases hl : v < (wipeD ρ vs).length
      · exact .inl (List.getElem?_set_self hl)
      · exact .inr (List.getElem?_eq_none (by simpa using hl))
    · rw [List.getElem?_set_ne e]
      rcases List.mem_cons.mp h with h | h
      · exact absurd h.symm e
      · exact wipeD_at_in ρ vs j h
theorem wipeD_at_out (ρ : Env) : ∀ (vs : List Nat) (j : Nat), j ∉ vs → (wipeD ρ vs)[j]? = ρ[j]?
  | [], _, _ => rfl
  | v :: vs, j, h => by
    unfold wipeD
    simp only [List.mem_cons, not_or] at h
    rw [List.getElem?_set_ne (Ne.symm h.1)]
    exact wipeD_at_out ρ vs j h.2
theorem resD_len (ρ0 ρe : Env) : ∀ vs : List Nat, (resD ρ0 ρe vs).length = ρe.length
  | [] => rfl
  | v :: vs => by unfold resD; rw [List.length_set, resD_len ρ0 ρe vs]
theorem resD_at_in (ρ0 ρe : Env) (hl : ρ0.length = ρe.length) : ∀ (vs : List Nat) (j : Nat), j ∈ vs → (resD ρ0 ρe vs)[j]? = ρ0[j]?
  | v :: vs, j, h => by
    unfold resD
    by_cases e : v = j
    · subst e
      by_cases hv : v < ρ0.length
      · rw [List.getElem?_set_self (by rw [resD_len]; omega), List.getElem?_eq_getElem hv]
        rfl
      · rw [List.getElem?_eq_none (by rw [List.length_set, resD_len]; omega), List.getElem?_eq_none (by omega)]
    · rw [List.getElem?_set_ne e]
      rcases List.mem_cons.mp h with h | h
      · exact absurd h.symm e
      · exact resD_at_in ρ0 ρe hl vs j h
theorem resD_at_out (ρ0 ρe : Env) : ∀ (vs : List Nat) (j : Nat), j ∉ vs → (resD ρ0 ρe vs)[j]? = ρe[j]?
  | [], _, _ => rfl
  | v :: vs, j, h => by
    unfold resD
    simp only [List.mem_cons, not_or] at h
    rw [List.getElem?_set_ne (Ne.symm h.1)]
    exact resD_at_out ρ0 ρe vs j h.2
theorem wipe_eq {σ σ' : L2.St} {vs : List Nat} (hl : σ'.length = σ.length) (h : ∀ j, j ∉ vs → σ'[j]? = σ[j]?) : wipe σ' vs = wipe σ vs := by
  refine List.ext_getElem? fun j => ?_
  by_cases hj : j ∈ vs
  · by_cases hb : j < σ.length
    · rw [wipe_at_in _ _ _ hj (by omega), wipe_at_in _ _ _ hj hb]
    · rw [List.getElem?_eq_none (by rw [wipe_len]; omega), List.getElem?_eq_none (by rw [wipe_len]; omega)]
  · rw [wipe_at_out _ _ _ hj, wipe_at_out _ _ _ hj, h j hj]

section
variable {G : Sg} {σ : L2.St} {ρ : Env} {H : Hp} {F : Nat → List Addr} {own : List Nat}
theorem EnvOk.wipe (E : EnvOk G σ ρ H F) (hp : ∀ i ∈ own, G.pin i = none) : EnvOk G (L2.wipe σ own) (wipeD ρ own) H F where
  len := by rw [wipe_len, wipeD_len]; exact E.len
  slot := fun i d e => by
    by_cases hi : i ∈ own
    · rcases wipeD_at_in ρ own i hi with q | q
      · rw [q] at e; cases e
      · rw [q] at e; cases e
    · rw [wipeD_at_out ρ own i hi] at e
      rw [wipe_at_out σ own i hi]
      exact E.slot i d e
  nd := E.nd
  dj := E.dj
  og := E.og
  hv := E.hv
  oh := E.oh
  pn := fun i v h => by
    by_cases hi : i ∈ own
    · rw [hp i hi] at h; cases h
    · rw [wipe_at_out σ own i hi]; exact E.pn i v h
  ff := E.ff
/-- behind a comprehension: its own names as they were -/
theorem EnvOk.restore {G0 : Sg} {ρe : Env} {H' : Hp} {F' : Nat → List Addr} {Fl : List Addr} (E0 : EnvOk G0 σ ρ H F) (hB : G0.B = G.B) (hΓ : G0.Γ = G.Γ) (hO : ∀ a, G.O a → G0.O a ∨ a ∈ Fl) (hpin : G0.pin = G.pin) (E : EnvOk G (L2.wipe σ own) ρe H' F') (ev : Evo H F H' F' Fl) (hf : ∀ i ∈ own, G.Γ i = .fz) :
    EnvOk G σ (resD ρ ρe own) H' F' where
  len := by
    have := E.len
    rw [wipe_len] at this
    rw [resD_len]; exact this
  slot := fun i d e => by
    have hl : ρ.length = ρe.length := by
      have := E.len
      rw [wipe_len] at this
      rw [← E0.len, this]
    by_cases hi : i ∈ own
    · rw [resD_at_in ρ ρe hl own i hi] at e
      obtain ⟨v, h1, h2⟩ := E0.slot i d e
      rw [hΓ, hf i hi] at h2
      obtain ⟨_, r⟩ := Own.fz_inv h2
      refine ⟨v, h1, ?_⟩
      rw [E.ff i (hf i hi), hf i hi]
      rw [hB] at r
      exact .fz (Rp.keep ev.k1 (fun a z => by
        rcases z with z | z
        · exact (ev.new a (.inl z)).imp .inl id
        · rcases hO a z with z | z
          · exact .inl (.inr z)
          · exact (ev.new a (.inr z)).imp .inl id) d r)
    · rw [resD_at_out ρ ρe own i hi] at e
      have := E.slot i d e
      rw [wipe_at_out σ own i hi] at this
      exact this
  nd := E.nd
  dj := E.dj
  og := E.og
  hv := E.hv
  oh := E.oh
  pn := fun i v h => by rw [← hpin] at h; exact E0.pn i v h
  ff := E.ff
/-- a thing outside the slots is changed -/
theorem EnvOk.updO {p : Addr} {o : HO} (E : EnvOk G σ ρ H F) (hp : G.O p) : EnvOk G σ ρ (upd H p o) F := by
  have ne : ∀ {a u}, H a = some u → a ≠ p → upd H p o a = some u := fun e n => by rw [upd_ne n]; exact e
  have nF : ∀ i a, a ∈ F i → a ≠ p := fun i a h q => E.og i a h (q ▸ hp)
  refine ⟨E.len, fun i d e => ?_, E.nd, E.dj, E.og, fun i a h => ?_, fun a h => ?_, E.pn, E.ff⟩
  · obtain ⟨v, h1, h2⟩ := E.slot i d e
    refine ⟨v, h1, Own.keep (fun a q => .inl q) d (fun a u e z => ne e ?_) h2⟩
    rcases z with z | z
    · exact nF i a z
    · intro q; subst q; exact z (.inr hp)
  · obtain ⟨u, e⟩ := E.hv i a h
    exact ⟨u, ne e (nF i a h)⟩
  · by_cases q : a = p
    · subst q; exact ⟨o, upd_same⟩
    · obtain ⟨u, e⟩ := E.oh a h
      exact ⟨u, ne e q⟩
theorem RpAll.updO {B : Bs} {W : Wr} {p : Addr} {o : HO} {vs : List V} {ds : List D} (h : RpAll B H W vs ds) (hp : W p) : RpAll B (upd H p o) W vs ds :=
  RpAll.keep (fun a u e n => by rw [upd_ne (fun q : a = p => n (by rw [q]; exact hp))]; exact e) (fun a q => .inl q) ds h
end
def W0 : WX := fun _ _ _ _ => False
theorem PE.ex {X : Cx} {e : Expr} {α : Type} {t : α → TE} (h : ∀ a, PE X e (t a)) : PE X e fun σ H Q => ∃ a, t a σ H Q := ⟨fun pins s σ H Q I ⟨a, w⟩ => (h a).run pins s σ H Q I w⟩
theorem PTs.ex {X : Cx} {e : List Expr} {α : Type} {t : α → TT} (h : ∀ a, PTs X e (t a)) : PTs X e fun σ H Q => ∃ a, t a σ H Q := ⟨fun pins s σ H Q I ⟨a, w⟩ => (h a).run pins s σ H Q I w⟩
theorem PG.ex {X : Cx} {e : Expr} {α : Type} {t : α → TG} (h : ∀ a, PG X e (t a)) : PG X e fun v σ H Q => ∃ a, t a v σ H Q := ⟨fun pins s σ H v u Q I r ⟨a, w⟩ => (h a).run pins s σ H v u Q I r w⟩
theorem PTs.imp {X : Cx} {e : List Expr} {t t' : TT} (h : PTs X e t) (i : ∀ σ H Q, t' σ H Q → t σ H Q) : PTs X e t' := ⟨fun pins s σ H Q I w => h.run pins s σ H Q I (i σ H Q w)⟩
abbrev DTs (X : Cx) (G : Sg) (W : WX) (es : List Expr) (f : Env → Res Bool) : Prop := PTs X es (tB G W f)
theorem dts_nil {X : Cx} {G : Sg} {W : WX} : DTs X G W [] bYes := PTs.imp pts_nil fun σ H Q ⟨F, ρ, E, g⟩ => Go.done g E rfl
theorem dts_one {X : Cx} {G : Sg} {W : WX} {c : Expr} {f : Env → Res Bool} (h : DT X G W c f) : DTs X G W [c] f := pts_one h
theorem noX_ok {α : Type} {m : Res α} {a : α} {ρ : Env} (h : noX m = .ok a ρ) : m = .ok a ρ := by
  cases m with
  | ok b ρ' => exact h
  | exc _ _ => cases h
  | err => cases h
theorem Go.ok_of {G : Sg} {W : WX} {σ : L2.St} {α β : Type} {m : Res α} {k : α → Env → Res β} {H : Hp} {F : Nat → List Addr} {K : β → Env → Hp → (Nat → List Addr) → List Addr → Prop} (g : Go G W σ (bnd (noX m) k) H F K) : ∃ a ρ, m = .ok a ρ ∧ Go G W σ (k a ρ) H F K := by
  cases m with
  | ok a ρ => exact ⟨a, ρ, rfl, g⟩
  | exc _ _ => exact g.elim
  | err => exact g.elim
theorem bnd_ok_inv {α β : Type} {m : Res α} {k : α → Env → Res β} {b : β} {ρ : Env} (h : bnd m k = .ok b ρ) : ∃ a ρ', m = .ok a ρ' ∧ k a ρ' = .ok b ρ := by
  cases m with
  | ok a ρ' => exact ⟨a, ρ', rfl, h⟩
  | exc _ _ => cases h
  | err => cases h
theorem lcGo_len {T : Tg} {cond : Env → Res Bool} {elt : Env → Res D} {own : List Nat} : ∀ {ds : List D} {ρ ρe : Env} {ys : List D}, lcGo T cond elt own ds ρ = .ok ys ρe → ys.length ≤ ds.length
  | [], _, _, _, h => by cases h; exact Nat.le_refl _
  | d :: ds, ρ, ρe, ys, h => by
    unfold lcGo at h
    split at h
    · cases h
    · obtain ⟨b, ρ2, _, h⟩ := bnd_ok_inv h
      split at h
      · obtain ⟨y, ρ3, _, h⟩ := bnd_ok_inv h
        obtain ⟨zs, ρ4, h1, h⟩ := bnd_ok_inv h
        cases h
        have := lcGo_len h1
        simp; omega
      · have := lcGo_len h
        simp; omega
section
variable {X : Cx} {G : Sg} {W : WX} {elt tg iter : Expr} {ifs : List Expr} {scope : Scope} {own : List (Str × Nat)} {pos spos py : Pos} {fi : Env → Res (List D)} {T : Tg} {cond : Env → Res Bool} {fe : Env → Res D}
theorem tI_bind {σ : L2.St} {H : Hp} {F : Nat → List Addr} {ρ : Env} {α : Type} {f : Env → Res (List D)} {k : List D → Env → Res α} {K : α → Env → Hp → (Nat → List Addr) → List Addr → Prop} {R : It → Hp → Prop} (E : EnvOk G σ ρ H F) (g : Go G W σ (bnd (f ρ) k) H F K)
    (r : ∀ ds ρ1 H1 F1 J, EnvOk G σ ρ1 H1 F1 → Walks G J ds H1 F1 → ds.length ≤ lim → Go G W σ (k ds ρ1) H1 F1 K → Evo H F H1 F1 [] → R J H1) : tI G W f σ H R := by
  refine ⟨F, ρ, E, (Go.bind g).imp fun d ρ1 H1 F1 Fl ⟨v1, _, E1, g1⟩ hz hl J w => ?_⟩
  subst hz
  rw [Sg.add_nil] at E1
  exact r d ρ1 H1 F1 J E1 w hl g1 v1
abbrev gLc (G : Sg) (T : Tg) : TG := fun v σ H Q => ∃ O : Wr, tG (G.wO O) T v σ H Q
abbrev tLcC (G : Sg) (cond : Env → Res Bool) : TT := fun σ H Q => ∃ O : Wr, tB (G.wO O) W0 cond σ H Q
abbrev tLcE (G : Sg) (fe : Env → Res D) : TE := fun σ H Q => ∃ O : Wr, tX (G.wO O) W0 .fz fe σ H Q
theorem lc_read {vs : List Nat} (hs : ∀ i ∈ T.slots, i ∈ vs) (hf : ∀ i ∈ vs, G.Γ i = .fz) (hp : ∀ i ∈ vs, G.pin i = none) {σ : L2.St} {H : Hp} {Q : VK} (h : tX G W (.lst .fz) (eLc fi T cond fe vs) σ H Q) :
    tLc (tI G W fi) (gLc G T) (tLcC G cond) (tLcE G fe) vs σ H Q := by
  obtain ⟨F, ρ, E, g⟩ := h
  refine tI_bind E g fun ds ρ1 H1 F1 J E1 wk hl g1 _ => ?_
  intro A hA
  obtain ⟨ys, ρe, hys, g2⟩ := Go.ok_of g1
  have e2 : EnvOk (G.add [A]) (wipe σ vs) (wipeD ρ1 vs) (upd H1 A (.lst [])) F1 := (E1.wipe hp).new hA (ext_upd hA) ⟨_, upd_same⟩
  refine ⟨fun i m H' => m = ds.length - i ∧ i ≤ ds.length ∧ ∃ F' ρ' acc accD ysr, EnvOk (G.add [A]) (wipe σ vs) ρ' H' F' ∧ H' A = some (.lst acc) ∧ RpAll G.B H' (Wof F' (G.add [A]).O) acc accD ∧ Evo H1 F1 H' F' [A] ∧ lcGo T cond fe vs (ds.drop i) ρ' = .ok ysr ρe ∧ ys = accD ++ ysr ∧ accD.length ≤ i,
    ⟨ds.length, by simp, Nat.zero_le _, F1, _, [], [], ys, e2, upd_same, .nil, Evo.one (ext_upd hA) hA, by simpa using hys, rfl, Nat.le_refl _⟩, ?_⟩
  rintro i m H' ⟨rfl, hi, F', ρ', acc, accD, ysr, E', hA', ra, ev, hgo, hcat, hal⟩
  have hP : ∀ a, a ∈ [A] → H1 a = none := fun a h => by rw [List.mem_singleton.mp h]; exact hA
  have wk' := wk (fun a => a ∈ [A]) H' F' hP ev.drop (there_W E') i
  by_cases hlt : i < ds.length
  · right
    obtain ⟨go, step⟩ := wk'.1 hlt
    refine ⟨go, fun H'' => ds.length - (i + 1) = ds.length - (i + 1) ∧ i + 1 ≤ ds.length ∧ ∃ F' ρ' acc accD ysr, EnvOk (G.add [A]) (wipe σ vs) ρ' H'' F' ∧ H'' A = some (.lst acc) ∧ RpAll G.B H'' (Wof F' (G.add [A]).O) acc accD ∧ Evo H1 F1 H'' F' [A] ∧ lcGo T cond fe vs (ds.drop (i + 1)) ρ' = .ok ysr ρe ∧ ys = accD ++ ysr ∧ accD.length ≤ i + 1,
      fun H'' n => ⟨ds.length - (i + 1), by omega, n⟩, fun x H'' hy => ?_⟩
    obtain ⟨ex, d, hd, rx⟩ := step x H'' hy
    have hdrop : ds.drop i = d :: ds.drop (i + 1) := by
      have hd' := List.getElem?_eq_some_iff.mp hd
      obtain ⟨q, rfl⟩ := hd'
      exact List.drop_eq_getElem_cons q
    rw [hdrop] at hgo
    unfold lcGo at hgo
    split at hgo
    · cases hgo
    · rename_i ρa hb
      obtain ⟨b, ρb, hc, hgo⟩ := bnd_ok_inv hgo
      have E2 := E'.ext ex
      refine ⟨(G.add [A]).O, F', ρ', d, ρa, E2, rx, hb, fun σ2 E3 l3 q3 => ?_⟩
      have hw : wipe σ2 vs = wipe σ vs := by
        have h1 : wipe σ2 vs = wipe (wipe σ vs) vs := wipe_eq l3 fun j hj => q3 j fun z => hj (hs j z)
        rw [h1]
        exact wipe_eq (wipe_len _ _) fun j hj => wipe_at_out _ _ _ hj
      refine ⟨hw, (G.add [A]).O, F', ρa, E3, ?_⟩
      rw [hc]
      intro H3 F3 Fl3 v3 f3 E4 z3
      subst z3
      have E4 : EnvOk (G.add [A]) σ2 ρb H3 F3 := by
        have := E4
        rw [Sg.add_nil] at this
        exact this
      have nA : ∀ {F' : Nat → List Addr} {H' : Hp} {ρ' : Env} {σ' : L2.St}, EnvOk (G.add [A]) σ' ρ' H' F' → ∀ j, A ∉ F' j := fun E j h => E.og j A h (.inr List.mem_cons_self)
      have evA : Evo H1 F1 H3 F3 [A] := by
        have q := (ev.drop.trans (Evo.of_ext ex)).trans v3
        exact ⟨q.keep, fun a z => z.elim (fun z => q.new a (.inl z)) fun z => .inr (hP a z)⟩
      have hA3 : H3 A = some (.lst acc) := v3.keep A _ (ex A _ hA') (nA E2)
      have ra3 : RpAll G.B H3 (Wof F3 (G.add [A]).O) acc accD := RpAll.evo (RpAll.ext ex ra) v3
      cases b with
      | false =>
        rw [if_neg Bool.false_ne_true] at hgo ⊢
        refine ⟨rfl, hlt, F3, wipeD ρb vs, acc, accD, ysr, ?_, hA3, ra3, evA, hgo, hcat, by omega⟩
        rw [← hw]
        exact E4.wipe hp
      | true =>
        rw [if_pos rfl] at hgo ⊢
        obtain ⟨y, ρc, hy', hgo⟩ := bnd_ok_inv hgo
        obtain ⟨zs, ρd, hz, hgo⟩ := bnd_ok_inv hgo
        cases hgo
        refine ⟨(G.add [A]).O, F3, ρb, E4, ?_⟩
        rw [hy']
        intro H4 F4 Fl4 v4 f4 E5 v ov
        obtain ⟨rfl, rv⟩ := Own.fz_inv ov
        have E5 : EnvOk (G.add [A]) σ2 ρc H4 F4 := by
          have := E5
          rw [Sg.add_nil] at this
          exact this
        have rv : Rp G.B H4 (Wof F4 (G.add [A]).O) v y := by
          rw [Sg.add_nil] at rv
          exact rv
        have hA4 : H4 A = some (.lst acc) := v4.keep A _ hA3 (nA E4)
        have ra4 : RpAll G.B H4 (Wof F4 (G.add [A]).O) acc accD := RpAll.evo ra3 v4
        have hlen := ra4.length
        refine ⟨acc, hA4, by rw [hlen]; exact lim_lt (by omega), rfl, hlt, F4, wipeD ρc vs, acc ++ [v], accD ++ [y], zs, ?_, upd_same, ?_, ?_, hz, by rw [hcat]; simp, by simp; omega⟩
        · rw [← hw]
          exact (E5.wipe hp).updO (.inr List.mem_cons_self)
        · exact RpAll.updO (ra4.append (.one rv)) (.inr (.inr List.mem_cons_self))
        · have q := evA.drop.trans v4
          refine ⟨fun a o e n => ?_, fun a z => z.elim (fun z => q.new a (.inl z)) fun z => .inr (hP a z)⟩
          rw [upd_ne (fun z => by rw [z, hA] at e; cases e)]
          exact q.keep a o e n
  · left
    have hi' : i = ds.length := by omega
    refine ⟨wk'.2 (by omega), ?_⟩
    rw [hi', List.drop_length] at hgo
    cases hgo
    rw [List.append_nil] at hcat
    subst hcat
    refine g2 H' F' [A] ev ⟨by simp, fun a h q => ?_⟩ (E1.restore (G := G.add [A]) rfl rfl (fun a h => h) rfl E' ev hf) (.ref A) ?_
    · rw [List.mem_singleton.mp h] at q
      obtain ⟨o, e⟩ := E1.oh A q
      rw [hA] at e; cases e
    · have := lcGo_len hys
      exact Own.lst_of hA' (by omega) ra
theorem dx_lc (hc : X.calm = true) (hN : X.N.Nodup) (hi : DI X G W tg iter fi) (ok : BlkOk X.N X.env.scope scope own) (hs : ∀ i ∈ T.slots, i ∈ own.map (·.2)) (hf : ∀ i ∈ own.map (·.2), G.Γ i = .fz) (hp : ∀ i ∈ own.map (·.2), G.pin i = none)
    (hg : ∀ (O : Wr) (s : Shared) (H : Hp) (C : Addr) (cl : List (Str × Addr)) (fp : List Addr), DG (X.blk s H scope (compEnvC scope cl C X.env) fp) (G.wO O) tg T) (ht : ∀ (O : Wr) (s : Shared) (H : Hp) (C : Addr) (cl : List (Str × Addr)) (fp : List Addr), DTs (X.blk s H scope (compEnvC scope cl C X.env) fp) (G.wO O) W0 ifs cond)
    (he : ∀ (O : Wr) (s : Shared) (H : Hp) (C : Addr) (cl : List (Str × Addr)) (fp : List Addr), DX (X.blk s H scope (compEnvC scope cl C X.env) fp) (G.wO O) W0 .fz elt fe) (hfs : ∀ x, foldedSetIterable iter X.env x = pure x := by intro _; rfl) :
    DX X G W (.lst .fz) (.ListComp elt [⟨tg, iter, ifs, 0⟩] scope pos) (eLc fi T cond fe (own.map (·.2))) :=
  PE.imp (pe_lc hc hN hi ok (fun s H C cl fp => PG.ex fun O => hg O s H C cl fp) (fun s H C cl fp => PTs.ex fun O => ht O s H C cl fp) (fun s H C cl fp => PE.ex fun O => he O s H C cl fp) hfs) fun σ H Q h => lc_read hs hf hp h
end
end PD

set_option Elab.async false
set_option linter.all false
set_option maxRecDepth 100000
set_option maxHeartbeats 4000000
/-! PDi: statements. -/
namespace PD
open PySem PySem.Spec PyProof.Rows L2 RZ

inductive SR where
  | nx (ρ : Env)
  | ret (d : D) (ρ : Env)
  | brk (ρ : Env)
  | ct (ρ : Env)
  | exc (c : Nat) (ρ : Env)
  | err
def bS {α : Type} (m : Res α) (k : α → Env → SR) : SR := match m with
  | .ok a ρ => k a ρ
  | .exc c ρ => .exc c ρ
  | .err => .err
@[simp] theorem bS_ok {α : Type} {a : α} {ρ : Env} {k : α → Env → SR} : bS (.ok a ρ) k = k a ρ := rfl
@[simp] theorem bS_exc {α : Type} {c : Nat} {ρ : Env} {k : α → Env → SR} : bS (.exc c ρ) k = .exc c ρ := rfl
@[simp] theorem bS_err {α : Type} {k : α → Env → SR} : bS .err k = .err := rfl
def sThen (m : SR) (k : Env → SR) : SR := match m with
  | .nx ρ => k ρ
  | .ret d ρ => .ret d ρ
  | .brk ρ => .brk ρ
  | .ct ρ => .ct ρ
  | .exc c ρ => .exc c ρ
  | .err => .err
@[simp] theorem sThen_nx {ρ : Env} {k : Env → SR} : sThen (.nx ρ) k = k ρ := rfl
@[simp] theorem sThen_ret {d : D} {ρ : Env} {k : Env → SR} : sThen (.ret d ρ) k = .ret d ρ := rfl
@[simp] theorem sThen_exc {d : Nat} {ρ : Env} {k : Env → SR} : sThen (.exc d ρ) k = .exc d ρ := rfl
@[simp] theorem sThen_brk {ρ : Env} {k : Env → SR} : sThen (.brk ρ) k = .brk ρ := rfl
@[simp] theorem sThen_ct {ρ : Env} {k : Env → SR} : sThen (.ct ρ) k = .ct ρ := rfl
@[simp] theorem sThen_err {k : Env → SR} : sThen .err k = .err := rfl

/-! what the pieces are worth -/
def sNil : Env → SR := fun ρ => .nx ρ
def sSeq (f g : Env → SR) : Env → SR := fun ρ => sThen (f ρ) g
def sDrop (f : Env → Res D) : Env → SR := fun ρ => bS (f ρ) fun _ ρ1 => .nx ρ1
def sRet (f : Env → Res D) : Env → SR := fun ρ => bS (f ρ) fun d ρ1 => .ret d ρ1
def sRetN : Env → SR := fun ρ => .ret .none ρ
def sIf (c : Env → Res Bool) (f g : Env → SR) : Env → SR := fun ρ => bS (c ρ) fun b ρ1 => if b = true then f ρ1 else g ρ1
def sSet (i : Nat) (f : Env → Res D) : Env → SR := fun ρ => bS (f ρ) fun d ρ1 => if i < ρ1.length then .nx (ρ1.set i (some d)) else .err
def sAsg (T : Tg) (f : Env → Res D) : Env → SR := fun ρ => bS (f ρ) fun d ρ1 => match bindT T d ρ1 with
  | some ρ2 => .nx ρ2
  | none => .err
def sPar (i j : Nat) (f : Env → Res (List Arg)) : Env → SR := fun ρ => bS (f ρ) fun as ρ1 => match valsOf as with
  | some [d, e] => if i < ρ1.length ∧ j < ρ1.length then .nx ((ρ1.set i (some d)).set j (some e)) else .err
  | _ => .err
def sBrk : Env → SR := fun ρ => .brk ρ
def sCt : Env → SR := fun ρ => .ct ρ
def sErr : Env → SR := fun _ => .err
def eErr {α : Type} : Env → Res α := fun _ => .err
def sExc (c : Nat) : Env → SR := fun ρ => .exc c ρ
def forGo (T : Tg) (body : Env → SR) : List D → Env → SR
  | [], ρ => .nx ρ
  | d :: ds, ρ => match bindT T d ρ with
    | none => .err
    | some ρ1 => match body ρ1 with
      | .nx ρ2 => forGo T body ds ρ2
      | .ct ρ2 => forGo T body ds ρ2
      | .brk ρ2 => .nx ρ2
      | .ret d ρ2 => .ret d ρ2
      | .exc c ρ2 => .exc c ρ2
      | .err => .err
def sFor (T : Tg) (fi : Env → Res (List D)) (body : Env → SR) : Env → SR := fun ρ => bS (fi ρ) fun ds ρ1 => forGo T body ds ρ1
def whGo (c : Env → Res Bool) (body : Env → SR) : Nat → Env → SR
  | 0, _ => .err
  | n + 1, ρ => bS (c ρ) fun b ρ1 => if b = true then match body ρ1 with
      | .nx ρ2 => whGo c body n ρ2
      | .ct ρ2 => whGo c body n ρ2
      | .brk ρ2 => .nx ρ2
      | .ret d ρ2 => .ret d ρ2
      | .exc c ρ2 => .exc c ρ2
      | .err => .err
    else .nx ρ1
def sWhile (c : Env → Res Bool) (body : Env → SR) : Env → SR := whGo c body lim

/-! readings -/
def GoS (G : Sg) (W : WX) (tr : T) (m : SR) (H : Hp) (F : Nat → List Addr) (Dn : Ends) : Prop := match m with
  | .nx ρ' => ∀ σ' H' F', Evo H F H' F' [] → EnvOk G σ' ρ' H' F' → Dn.nx σ' H'
  | .ret d ρ' => ∀ σ' H' F' Fl, Evo H F H' F' Fl → FlOk G Fl → EnvOk (G.add Fl) σ' ρ' H' F' → ∀ v, Own G.B H' (Wof F' (G.add Fl).O) tr v d Fl → Dn.rt v H'
  | .brk ρ' => ∀ σ' H' F', Evo H F H' F' [] → EnvOk G σ' ρ' H' F' → Dn.bk σ' H'
  | .ct ρ' => ∀ σ' H' F', Evo H F H' F' [] → EnvOk G σ' ρ' H' F' → Dn.ct σ' H'
  | .exc c ρ' => ∀ σ' H' F', Evo H F H' F' [] → EnvOk G σ' ρ' H' F' → W (G.cl c) none σ' H'
  | .err => False
theorem GoS.after {G : Sg} {W : WX} {tr : T} {m : SR} {H H1 : Hp} {F F1 : Nat → List Addr} {Dn : Ends} (g : GoS G W tr m H F Dn) (e : Evo H F H1 F1 []) : GoS G W tr m H1 F1 Dn := by
  cases m with
  | nx ρ' => exact fun σ' H' F' v E => g σ' H' F' (e.trans v) E
  | ret d ρ' => exact fun σ' H' F' Fl v f E => g σ' H' F' Fl (e.trans v) f E
  | brk ρ' => exact fun σ' H' F' v E => g σ' H' F' (e.trans v) E
  | ct ρ' => exact fun σ' H' F' v E => g σ' H' F' (e.trans v) E
  | exc c ρ' => exact fun σ' H' F' v E => g σ' H' F' (e.trans v) E
  | err => exact g
/-- a piece ahead of the rest -/
theorem GoS.bind {G : Sg} {W : WX} {tr : T} {α : Type} {σ : L2.St} {m : Res α} {k : α → Env → SR} {H : Hp} {F : Nat → List Addr} {Dn : Ends} (g : GoS G W tr (bS m k) H F Dn) :
    Go G W σ m H F fun a ρ1 H1 F1 Fl => Evo H F H1 F1 Fl ∧ FlOk G Fl ∧ EnvOk (G.add Fl) σ ρ1 H1 F1 ∧ GoS G W tr (k a ρ1) H1 F1 Dn := by
  cases m with
  | ok a ρ' => exact fun H' F' Fl v f E => ⟨v, f, E, GoS.after g v.drop⟩
  | exc c ρ' => exact fun H' F' v E => g σ H' F' v E
  | err => exact g
def tS (G : Sg) (W : WX) (tr : T) (f : Env → SR) : TS := fun Dn σ H => ∃ F ρ, EnvOk G σ ρ H F ∧ GoS G W tr (f ρ) H F Dn
abbrev DS (X : Cx) (G : Sg) (W : WX) (tr : T) (st : Stmt) (f : Env → SR) : Prop := PS X st (tS G W tr f)
abbrev DSs (X : Cx) (G : Sg) (W : WX) (tr : T) (st : List Stmt) (f : Env → SR) : Prop := PSs X st (tS G W tr f)
theorem PS.imp {X : Cx} {e : Stmt} {t t' : TS} (h : PS X e t) (i : ∀ Dn σ H, t' Dn σ H → t Dn σ H) : PS X e t' := ⟨fun pins s σ H Dn I w => h.run pins s σ H Dn I (i Dn σ H w)⟩
theorem PSs.imp {X : Cx} {e : List Stmt} {t t' : TS} (h : PSs X e t) (i : ∀ Dn σ H, t' Dn σ H → t Dn σ H) : PSs X e t' := ⟨fun pins s σ H Dn I w => h.run pins s σ H Dn I (i Dn σ H w)⟩
section
variable {G : Sg} {W : WX} {tr : T} {σ : L2.St} {H : Hp} {F : Nat → List Addr} {ρ : Env} {Dn : Ends}
theorem sX_bind {t : T} {f : Env → Res D} {k : D → Env → SR} {R : VK} (E : EnvOk G σ ρ H F) (g : GoS G W tr (bS (f ρ) k) H F Dn)
    (r : ∀ v d ρ1 H1 F1 Fl, FlOk G Fl → EnvOk (G.add Fl) σ ρ1 H1 F1 → Own G.B H1 (Wof F1 (G.add Fl).O) t v d Fl → GoS G W tr (k d ρ1) H1 F1 Dn → Evo H F H1 F1 Fl → R v H1) : tX G W t f σ H R := by
  exact ⟨F, ρ, E, (GoS.bind g).imp fun d ρ1 H1 F1 Fl ⟨v1, fo, E1, g1⟩ v o => r v d ρ1 H1 F1 Fl fo E1 o g1 v1⟩
theorem sB_bind {f : Env → Res Bool} {k : Bool → Env → SR} {R : Bool → Hp → Prop} (E : EnvOk G σ ρ H F) (g : GoS G W tr (bS (f ρ) k) H F Dn)
    (r : ∀ d ρ1 H1 F1, EnvOk G σ ρ1 H1 F1 → GoS G W tr (k d ρ1) H1 F1 Dn → Evo H F H1 F1 [] → R d H1) : tB G W f σ H R := by
  refine ⟨F, ρ, E, (GoS.bind g).imp fun d ρ1 H1 F1 Fl ⟨v1, _, E1, g1⟩ hz => ?_⟩
  subst hz
  rw [Sg.add_nil] at E1
  exact r d ρ1 H1 F1 E1 g1 v1
theorem sAs_bind {f : Env → Res (List Arg)} {k : List Arg → Env → SR} {R : List V → Hp → Prop} (E : EnvOk G σ ρ H F) (g : GoS G W tr (bS (f ρ) k) H F Dn)
    (r : ∀ vs as ρ1 H1 F1, EnvOk G σ ρ1 H1 F1 → ArgsOk G σ H1 F1 vs as → GoS G W tr (k as ρ1) H1 F1 Dn → Evo H F H1 F1 [] → R vs H1) : tAs G W f σ H R := by
  refine ⟨F, ρ, E, (GoS.bind g).imp fun d ρ1 H1 F1 Fl ⟨v1, _, E1, g1⟩ hz vs o => ?_⟩
  subst hz
  rw [Sg.add_nil] at E1
  exact r vs d ρ1 H1 F1 E1 o g1 v1
theorem sI_bind {f : Env → Res (List D)} {k : List D → Env → SR} {R : It → Hp → Prop} (E : EnvOk G σ ρ H F) (g : GoS G W tr (bS (f ρ) k) H F Dn)
    (r : ∀ ds ρ1 H1 F1 J, EnvOk G σ ρ1 H1 F1 → Walks G J ds H1 F1 → ds.length ≤ lim → GoS G W tr (k ds ρ1) H1 F1 Dn → Evo H F H1 F1 [] → R J H1) : tI G W f σ H R := by
  refine ⟨F, ρ, E, (GoS.bind g).imp fun d ρ1 H1 F1 Fl ⟨v1, _, E1, g1⟩ hz hl J w => ?_⟩
  subst hz
  rw [Sg.add_nil] at E1
  exact r d ρ1 H1 F1 J E1 w hl g1 v1
/-- the ends of a piece that are wished otherwise -/
theorem GoS.ends {m : SR} {D' : Ends} (g : GoS G W tr m H F Dn) (h1 : ∀ σ' H', Dn.nx σ' H' → D'.nx σ' H') (h2 : ∀ v H', Dn.rt v H' → D'.rt v H') (h3 : ∀ σ' H', Dn.bk σ' H' → D'.bk σ' H') (h4 : ∀ σ' H', Dn.ct σ' H' → D'.ct σ' H') : GoS G W tr m H F D' := by
  cases m with
  | nx ρ' => exact fun σ' H' F' v E => h1 _ _ (g σ' H' F' v E)
  | ret d ρ' => exact fun σ' H' F' Fl v f E u o => h2 _ _ (g σ' H' F' Fl v f E u o)
  | brk ρ' => exact fun σ' H' F' v E => h3 _ _ (g σ' H' F' v E)
  | ct ρ' => exact fun σ' H' F' v E => h4 _ _ (g σ' H' F' v E)
  | exc c ρ' => exact g
  | err => exact g
end
section
variable {X : Cx} {G : Sg} {W : WX} {tr : T} {st : Stmt} {rest sa sb body : List Stmt} {e c tg iter : Expr} {f : Env → Res D} {m k : Env → SR} {bc : Env → Res Bool} {i j : Nat} {x : Str} {pos pos' : Pos} {T' : Tg} {fi : Env → Res (List D)} {fs : Env → Res (List Arg)}
theorem dss_nil : DSs X G W tr [] sNil := PSs.imp pss_nil fun Dn σ H ⟨F, ρ, E, g⟩ => g σ H F Evo.refl E
theorem dss_cons (h1 : DS X G W tr st m) (h2 : DSs X G W tr rest k) : DSs X G W tr (st :: rest) (sSeq m k) := PSs.imp (pss_cons h1 h2) fun Dn σ H ⟨F, ρ, E, g⟩ => by
  refine ⟨F, ρ, E, ?_⟩
  unfold sSeq at g
  cases q : m ρ with
  | nx ρ' =>
    rw [q] at g
    exact fun σ' H' F' v E' => ⟨F', ρ', E', GoS.after g v⟩
  | ret d ρ' => rw [q] at g; exact g
  | brk ρ' => rw [q] at g; exact g
  | ct ρ' => rw [q] at g; exact g
  | exc d ρ' => rw [q] at g; exact g
  | err => rw [q] at g; exact g
theorem dss_one (h1 : DS X G W tr st m) : DSs X G W tr [st] m := pss_one h1
theorem ds_pass : DS X G W tr (.Pass pos) sNil := PS.imp ps_pass fun Dn σ H ⟨F, ρ, E, g⟩ => g σ H F Evo.refl E
theorem ds_break : DS X G W tr (.Break pos) sBrk := PS.imp ps_break fun Dn σ H ⟨F, ρ, E, g⟩ => g σ H F Evo.refl E
theorem ds_continue : DS X G W tr (.Continue pos) sCt := PS.imp ps_continue fun Dn σ H ⟨F, ρ, E, g⟩ => g σ H F Evo.refl E
theorem ds_doc {z : Str} {kk p p'} : DS X G W tr (.Expr (.Constant (.str z) kk p) p') sNil := PS.imp ps_doc fun Dn σ H ⟨F, ρ, E, g⟩ => g σ H F Evo.refl E
theorem ds_never : DS X G W tr st sErr := PS.imp ps_never fun Dn σ H ⟨F, ρ, E, g⟩ => g
theorem dss_never {sts : List Stmt} : DSs X G W tr sts sErr := PSs.imp pss_never fun Dn σ H ⟨F, ρ, E, g⟩ => g
theorem pe_never {e : Expr} : PE X e (fun _ _ _ => False) := ⟨fun _ _ _ _ _ _ h => h.elim⟩
theorem dx_never {t : T} : DX X G W t e eErr := PE.imp pe_never fun σ H Q ⟨F, ρ, E, g⟩ => g
theorem ds_expr {t : T} (he : DX X G W t e f) (hs : swapsWith e none pos.line X.env = pure false := by rfl) : DS X G W tr (.Expr e pos) (sDrop f) := PS.imp (ps_expr he hs) fun Dn σ H ⟨F, ρ, E, g⟩ =>
  sX_bind E g fun v d ρ1 H1 F1 Fl fo E1 o g1 v1 => g1 σ H1 F1 Evo.refl E1.drop
theorem ds_ret (he : DX X G W tr e f) : DS X G W tr (.Return (some e) pos) (sRet f) := PS.imp (ps_ret he) fun Dn σ H ⟨F, ρ, E, g⟩ => by
  refine ⟨F, ρ, E, ?_⟩
  unfold sRet at g
  cases q : f ρ with
  | ok d ρ' =>
    rw [q] at g
    exact fun H' F' Fl v fo E' u o => g σ H' F' Fl v fo E' u o
  | exc c ρ' =>
    rw [q] at g
    exact fun H' F' v E' => g σ H' F' v E'
  | err => rw [q] at g; exact g
theorem ds_retN : DS X G W tr (.Return none pos) sRetN := PS.imp ps_retN fun Dn σ H ⟨F, ρ, E, g⟩ => g σ H F [] Evo.refl FlOk.nil (by rw [Sg.add_nil]; exact E) .non (.imm rfl .non)
theorem ds_if (hc : DT X G W c bc) (ha : DSs X G W tr sa m) (hb : DSs X G W tr sb k) : DS X G W tr (.If c sa sb pos) (sIf bc m k) := PS.imp (ps_if hc ha hb) fun Dn σ H ⟨F, ρ, E, g⟩ =>
  sB_bind E g fun d ρ1 H1 F1 E1 g1 v1 => by
    cases d with
    | true => exact ⟨F1, ρ1, E1, g1⟩
    | false => exact ⟨F1, ρ1, E1, g1⟩
theorem sset_end {σ : L2.St} {H1 : Hp} {F1 : Nat → List Addr} {ρ1 : Env} {Fl : List Addr} {d : D} {v : V} {Dn : Ends} {H : Hp} {F : Nat → List Addr} (hp : G.pin i = none) (fo : FlOk G Fl) (E1 : EnvOk (G.add Fl) σ ρ1 H1 F1) (o : Own G.B H1 (Wof F1 (G.add Fl).O) (G.Γ i) v d Fl) (v1 : Evo H F H1 F1 Fl)
    (g1 : GoS G W tr (if i < ρ1.length then .nx (ρ1.set i (some d)) else .err) H F Dn) : Dn.nx (σ.set i (some v)) H1 := by
  by_cases hi : i < ρ1.length
  · rw [if_pos hi] at g1
    refine g1 _ H1 (updF F1 i Fl) ⟨v1.keep, fun a z => ?_⟩ (E1.setOwn o fo.1 fo.2 hp hi)
    rcases z with ⟨j, hj⟩ | z
    · by_cases e : j = i
      · subst e
        rw [updF_same] at hj
        exact v1.new a (.inr hj)
      · rw [updF_ne e] at hj
        exact v1.new a (.inl ⟨j, hj⟩)
    · cases z
  · rw [if_neg hi] at g1; exact g1.elim
theorem GoS.bindE {α : Type} {σ : L2.St} {mm : Res α} {kk : α → Env → SR} {H : Hp} {F : Nat → List Addr} {Dn : Ends} (g : GoS G W tr (bS mm kk) H F Dn) :
    Go G W σ mm H F fun a ρ1 H1 F1 Fl => Evo H F H1 F1 Fl ∧ FlOk G Fl ∧ EnvOk (G.add Fl) σ ρ1 H1 F1 ∧ GoS G W tr (kk a ρ1) H F Dn := by
  cases mm with
  | ok a ρ' => exact fun H' F' Fl v f E => ⟨v, f, E, g⟩
  | exc c ρ' => exact fun H' F' v E => g σ H' F' v E
  | err => exact g
theorem ds_set (hN : X.N.Nodup) (hi : X.N[i]? = some x) (hx : Loc X.env.scope x) (hp : G.pin i = none) (hf : X.fn x = true ∨ X.env.scope.names.lookup x = some .local) (he : DX X G W (G.Γ i) e f) (hs : swapsWith e (some (.Name x pos')) pos.line X.env = pure false := by rfl) :
    DS X G W tr (.Assign [.Name x pos'] e pos) (sSet i f) := PS.imp (ps_set hN hi hx he hs hf) fun Dn σ H ⟨F, ρ, E, g⟩ =>
  ⟨F, ρ, E, (GoS.bindE g).imp fun d ρ1 H1 F1 Fl ⟨v1, fo, E1, g1⟩ v o => sset_end hp fo E1 o v1 g1⟩
/-- name = [..] on one line, the name a local -/
theorem ds_setLc {elt : Expr} {ifs : List Expr} {scope : Scope} {own : List (Str × Nat)} {spos py : Pos} {y : Str} {cond : Env → Res Bool} {fe : Env → Res D} (hc : X.calm = true) (hN : X.N.Nodup) (hy : X.N[i]? = some y) (hyl : X.env.scope.names.lookup y = some .local) (hpi : G.pin i = none) (hΓ : G.Γ i = .lst .fz)
    (hsw : swapsWith (.ListComp elt [⟨tg, iter, ifs, 0⟩] scope pos) (some (.Name y py)) spos.line X.env = pure true) (hi : DI X G W tg iter fi) (ok : BlkOk X.N X.env.scope scope own) (hs : ∀ i ∈ T'.slots, i ∈ own.map (·.2)) (hf : ∀ i ∈ own.map (·.2), G.Γ i = .fz) (hp : ∀ i ∈ own.map (·.2), G.pin i = none)
    (hg : ∀ (O : Wr) (s : Shared) (H : Hp) (C : Addr) (cl : List (Str × Addr)) (fp : List Addr), DG (X.blk s H scope (compEnvC scope cl C X.env) fp) (G.wO O) tg T') (ht : ∀ (O : Wr) (s : Shared) (H : Hp) (C : Addr) (cl : List (Str × Addr)) (fp : List Addr), DTs (X.blk s H scope (compEnvC scope cl C X.env) fp) (G.wO O) W0 ifs cond)
    (he : ∀ (O : Wr) (s : Shared) (H : Hp) (C : Addr) (cl : List (Str × Addr)) (fp : List Addr), DX (X.blk s H scope (compEnvC scope cl C X.env) fp) (G.wO O) W0 .fz elt fe) (hfs : ∀ x, foldedSetIterable iter X.env x = pure x := by intro _; rfl) :
    DS X G W tr (.Assign [.Name y py] (.ListComp elt [⟨tg, iter, ifs, 0⟩] scope pos) spos) (sSet i (eLc fi T' cond fe (own.map (·.2)))) :=
  PS.imp (ps_setLc hc hN hy hyl hsw hi ok (fun s H C cl fp => PG.ex fun O => hg O s H C cl fp) (fun s H C cl fp => PTs.ex fun O => ht O s H C cl fp) (fun s H C cl fp => PE.ex fun O => he O s H C cl fp) hfs) fun Dn σ H ⟨F, ρ, E, g⟩ => by
    refine lc_read hs hf hp ⟨F, ρ, E, (GoS.bindE g).imp fun d ρ1 H1 F1 Fl ⟨v1, fo, E1, g1⟩ v o => ?_⟩
    refine sset_end hpi fo E1 (v := v) ?_ v1 g1
    rw [hΓ]; exact o
/-- .. where what is stored is frozen -/
theorem ds_setLcF {elt : Expr} {ifs : List Expr} {scope : Scope} {own : List (Str × Nat)} {spos py : Pos} {y : Str} {cond : Env → Res Bool} {fe : Env → Res D} (hc : X.calm = true) (hN : X.N.Nodup) (hy : X.N[i]? = some y) (hyl : X.env.scope.names.lookup y = some .local) (hpi : G.pin i = none) (hΓ : G.Γ i = .fz)
    (hsw : swapsWith (.ListComp elt [⟨tg, iter, ifs, 0⟩] scope pos) (some (.Name y py)) spos.line X.env = pure true) (hi : DI X G W tg iter fi) (ok : BlkOk X.N X.env.scope scope own) (hs : ∀ i ∈ T'.slots, i ∈ own.map (·.2)) (hf : ∀ i ∈ own.map (·.2), G.Γ i = .fz) (hp : ∀ i ∈ own.map (·.2), G.pin i = none)
    (hg : ∀ (O : Wr) (s : Shared) (H : Hp) (C : Addr) (cl : List (Str × Addr)) (fp : List Addr), DG (X.blk s H scope (compEnvC scope cl C X.env) fp) (G.wO O) tg T') (ht : ∀ (O : Wr) (s : Shared) (H : Hp) (C : Addr) (cl : List (Str × Addr)) (fp : List Addr), DTs (X.blk s H scope (compEnvC scope cl C X.env) fp) (G.wO O) W0 ifs cond)
    (he : ∀ (O : Wr) (s : Shared) (H : Hp) (C : Addr) (cl : List (Str × Addr)) (fp : List Addr), DX (X.blk s H scope (compEnvC scope cl C X.env) fp) (G.wO O) W0 .fz elt fe) (hfs : ∀ x, foldedSetIterable iter X.env x = pure x := by intro _; rfl) :
    DS X G W tr (.Assign [.Name y py] (.ListComp elt [⟨tg, iter, ifs, 0⟩] scope pos) spos) (sSet i (eLc fi T' cond fe (own.map (·.2)))) :=
  PS.imp (ps_setLc hc hN hy hyl hsw hi ok (fun s H C cl fp => PG.ex fun O => hg O s H C cl fp) (fun s H C cl fp => PTs.ex fun O => ht O s H C cl fp) (fun s H C cl fp => PE.ex fun O => he O s H C cl fp) hfs) fun Dn σ H ⟨F, ρ, E, g⟩ => by
    refine lc_read hs hf hp ⟨F, ρ, E, (GoS.bindE g).imp fun d ρ1 H1 F1 Fl ⟨v1, fo, E1, g1⟩ v o => ?_⟩
    have o' : Own G.B H1 (Wof F1 (G.add []).O) (G.Γ i) v d [] := by
      rw [hΓ, Sg.add_nil]
      refine .fz (Own.rp (fun a z => z.imp id .inl) d (fun a ha z => ?_) o)
      rcases z with ⟨j, hj⟩ | z
      · exact E1.og j a hj (.inr ha)
      · exact fo.2 a ha z
    exact sset_end hpi FlOk.nil (by rw [Sg.add_nil]; exact E1.drop) o' v1.drop g1
/-- (a, b) = a pair, all frozen -/
theorem ds_asg (hg : DG X G tg T') (he : DX X G W .fz e f) (hs : swapsWithSole [tg] e pos.line X.env = pure false) (hw : swappedStores [tg] e X.env = pure none) (h1 : (assignEach [tg] X.env).map (·.2) = [assign tg X.env]) :
    DS X G W tr (.Assign [tg] e pos) (sAsg T' f) := PS.imp (ps_asg he hg hs hw h1) fun Dn σ H ⟨F, ρ, E, g⟩ =>
  sX_bind E g fun v d ρ1 H1 F1 Fl fo E1 o g1 v1 => by
    obtain ⟨rfl, r⟩ := Own.fz_inv o
    rw [Sg.add_nil] at E1 r
    cases q : bindT T' d ρ1 with
    | none => simp only [q] at g1; exact g1.elim
    | some ρ2 =>
      simp only [q] at g1
      exact ⟨F1, ρ1, d, ρ2, E1, r, q, fun σ' E' _ _ => g1 σ' H1 F1 Evo.refl E'⟩
theorem ds_par {x y : Str} {a b : Expr} {px py pt : Pos} {kt k2 pt2} (hc : X.calm = true) (hN : X.N.Nodup) (hi : X.N[i]? = some x) (hj : X.N[j]? = some y) (hij : i ≠ j)
    (hx : X.env.scope.names.lookup x = some .local) (hy : X.env.scope.names.lookup y = some .local) (f1 : G.Γ i = .fz) (f2 : G.Γ j = .fz) (p1 : G.pin i = none) (p2 : G.pin j = none) (ha : DA X G W [a, b] fs)
    (hw : swappedStores [.Tuple [.Name x px, .Name y py] kt pt] (.Tuple [a, b] k2 pt2) X.env = pure (some [x, y]))
    (hs : swapsWithSole [.Tuple [.Name x px, .Name y py] kt pt] (.Tuple [a, b] k2 pt2) pos.line X.env = pure false) :
    DS X G W tr (.Assign [.Tuple [.Name x px, .Name y py] kt pt] (.Tuple [a, b] k2 pt2) pos) (sPar i j fs) := PS.imp (ps_par hc hN hi hj hij hx hy ha hw hs) fun Dn σ H ⟨F, ρ, E, g⟩ =>
  sAs_bind E g fun vs as ρ1 H1 F1 E1 os g1 v1 => by
    cases q : valsOf as with
    | none => simp only [q] at g1; exact g1.elim
    | some ds =>
      simp only [q] at g1
      have r := os.vals q
      match ds, r, g1 with
      | [], _, g1 => exact g1.elim
      | [_], _, g1 => exact g1.elim
      | _ :: _ :: _ :: _, _, g1 => exact g1.elim
      | [d, e'], r, g1 =>
        simp only at g1
        by_cases hl : i < ρ1.length ∧ j < ρ1.length
        · rw [if_pos hl] at g1
          cases r with
          | cons r1 r =>
            cases r with
            | cons r2 r =>
              cases r
              exact ⟨_, _, rfl, g1 _ H1 F1 Evo.refl ((E1.setFz r1 f1 p1 hl.1).setFz r2 f2 p2 (by simpa using hl.2))⟩
        · rw [if_neg hl] at g1; exact g1.elim
theorem ds_for (hpo : PassesOwn (model X.prog X.w) X.A X.env X.xe) (hc : X.calm = true) (hi : DI X G W tg iter fi) (hg : DG X G tg T') (hb : DSs X G W tr body m) (hs : ∀ x, foldedSetIterable iter X.env x = pure x := by intro _; rfl) :
    DS X G W tr (.For tg iter body [] pos) (sFor T' fi m) := PS.imp (ps_for hpo hc hi hg hb hs) fun Dn σ H ⟨F, ρ, E, g⟩ =>
  sI_bind E g fun ds ρ1 H1 F1 J E1 wk hl g1 v1 => by
    refine ⟨fun i m' σ' H' => m' = ds.length - i ∧ i ≤ ds.length ∧ ∃ F' ρ', EnvOk G σ' ρ' H' F' ∧ Evo H1 F1 H' F' [] ∧ GoS G W tr (forGo T' m (ds.drop i) ρ') H' F' Dn, ⟨ds.length, by simp, Nat.zero_le _, F1, ρ1, E1, Evo.refl, by simpa using g1⟩, ?_⟩
    rintro i m' σ' H' ⟨rfl, hi, F', ρ', E', ev, g'⟩
    have wk' := wk (fun _ => False) H' F' (fun _ z => z.elim) ev (fun a z => there_W E' a (z.imp id fun z => z.elim id False.elim)) i
    by_cases hlt : i < ds.length
    · right
      obtain ⟨go, step⟩ := wk'.1 hlt
      refine ⟨go, fun σ2 H2 => ds.length - (i + 1) = ds.length - (i + 1) ∧ i + 1 ≤ ds.length ∧ ∃ F2 ρ2, EnvOk G σ2 ρ2 H2 F2 ∧ Evo H1 F1 H2 F2 [] ∧ GoS G W tr (forGo T' m (ds.drop (i + 1)) ρ2) H2 F2 Dn,
        fun σ2 H2 n => ⟨ds.length - (i + 1), by omega, n⟩, fun y H'' hy => ?_⟩
      obtain ⟨ex, d, hd, rx⟩ := step y H'' hy
      have hdrop : ds.drop i = d :: ds.drop (i + 1) := by
        obtain ⟨q, rfl⟩ := List.getElem?_eq_some_iff.mp hd
        exact List.drop_eq_getElem_cons q
      rw [hdrop] at g'
      unfold forGo at g'
      have rx : Rp G.B H'' (Wof F' G.O) y d := rx.anti fun a z => z.imp id .inl
      cases qb : bindT T' d ρ' with
      | none => simp only [qb] at g'; exact g'.elim
      | some ρa =>
        simp only [qb] at g'
        refine ⟨F', ρ', d, ρa, E'.ext ex, rx, qb, fun σ2 E2 _ _ => ⟨F', ρa, E2, ?_⟩⟩
        have ev2 : Evo H1 F1 H'' F' [] := ev.trans (Evo.of_ext ex)
        have g2 := GoS.after g' (Evo.of_ext (F := F') ex)
        cases qm : m ρa with
        | nx ρ2 =>
          simp only [qm] at g2
          exact fun σ3 H3 F3 v3 E3 => ⟨rfl, hlt, F3, ρ2, E3, ev2.trans v3, GoS.after g2 v3⟩
        | ct ρ2 =>
          simp only [qm] at g2
          exact fun σ3 H3 F3 v3 E3 => ⟨rfl, hlt, F3, ρ2, E3, ev2.trans v3, GoS.after g2 v3⟩
        | brk ρ2 => simp only [qm] at g2; exact g2
        | ret d2 ρ2 => simp only [qm] at g2; exact g2
        | exc c2 ρ2 => simp only [qm] at g2; exact g2
        | err => simp only [qm] at g2; exact g2
    · left
      have hi' : i = ds.length := by omega
      refine ⟨wk'.2 (by omega), ?_⟩
      rw [hi', List.drop_length] at g'
      exact g' σ' H' F' Evo.refl E'
theorem ds_while (hpo : PassesOwn (model X.prog X.w) X.A X.env X.xe) (hc : DT X G W c bc) (hb : DSs X G W tr body m) : DS X G W tr (.While c body [] pos) (sWhile bc m) := PS.imp (ps_while hpo hc hb) fun Dn σ H ⟨F, ρ, E, g⟩ => by
  refine ⟨fun n σ' H' => ∃ F' ρ', EnvOk G σ' ρ' H' F' ∧ GoS G W tr (whGo bc m n ρ') H' F' Dn, ⟨lim, F, ρ, E, g⟩, ?_⟩
  rintro n σ' H' ⟨F', ρ', E', g'⟩
  cases n with
  | zero => exact g'.elim
  | succ n =>
    unfold whGo at g'
    refine sB_bind E' g' fun d ρ1 H1 F1 E1 g1 v1 => ?_
    cases d with
    | false => exact g1 σ' H1 F1 Evo.refl E1
    | true =>
      rw [if_pos rfl] at g1 ⊢
      refine ⟨fun σ2 H2 => ∃ F2 ρ2, EnvOk G σ2 ρ2 H2 F2 ∧ GoS G W tr (whGo bc m n ρ2) H2 F2 Dn, fun σ2 H2 q => ⟨n, Nat.lt_succ_self n, q⟩, F1, ρ1, E1, ?_⟩
      cases qm : m ρ1 with
      | nx ρ2 =>
        simp only [qm] at g1
        exact fun σ3 H3 F3 v3 E3 => ⟨F3, ρ2, E3, GoS.after g1 v3⟩
      | ct ρ2 =>
        simp only [qm] at g1
        exact fun σ3 H3 F3 v3 E3 => ⟨F3, ρ2, E3, GoS.after g1 v3⟩
      | brk ρ2 => simp only [qm] at g1; exact g1
      | ret d2 ρ2 => simp only [qm] at g1; exact g1
      | exc c2 ρ2 => simp only [qm] at g1; exact g1
      | err => simp only [qm] at g1; exact g1
theorem ds_raise {cn : Nat} {C : Addr} (hc : X.calm = true) (tk : Takes X W) (hcl : G.cl cn = .ref C) (he : PMk X e (fun _ H Q => Q (.ref C) none H)) : DS X G W tr (.Raise (some e) none pos) (sExc cn) := PS.imp (ps_raise hc tk he) fun Dn σ H ⟨F, ρ, E, g⟩ => by
  have q := g σ H F Evo.refl E
  rw [hcl] at q
  exact q
end
end PD

set_option Elab.async false
set_option linter.all false
set_option maxRecDepth 100000
set_option maxHeartbeats 4000000
/-! PDj: chains, isinstance, methods, changed lists. -/
namespace PD
open PySem PySem.Spec PyProof.Rows L2 RZ

section
variable {X : Cx} {G : Sg} {W : WX} {a b c e : Expr} {es : List Expr} {pos apos cpos : Pos} {t : T} {fa fb fc : Env → Res Arg} {fs : Env → Res (List Arg)} {x : Str} {i j : Nat}
/-! ### a op1 b op2 c -/
theorem chain_end {op op' : CmpOp} {r r' : R2} {gg gg' : D → D → Option D} (pv : PV2 G.B r .fz gg) (pv' : PV2 G.B r' .fz gg') {σ : L2.St} {H : Hp} {Q : VK} (h : tX G W .fz (eChain gg gg' fa fb fc) σ H Q) : tChain r r' (tO G W fa) (tO G W fb) (tO G W fc) σ H Q := by
  obtain ⟨F, ρ, E, g⟩ := h
  exact tO_bind E g fun x a1 ρ1 H1 F1 E1 o1 g1 _ => tO_bind E1 g1 fun y b1 ρ2 H2 F2 E2 o2 g2 v2 => op2_end pv E2 (o1.evo v2) o2 (Go.bind g2) fun d H' F' Fl v ex k o E3 eF => by
    obtain ⟨v3, fo, E4, g3⟩ := k
    obtain ⟨rfl, _⟩ := Own.fz_inv o
    rw [Sg.add_nil] at E4
    cases d with
    | bool q =>
      refine ⟨q, own_bool o, ?_⟩
      cases q with
      | false =>
        rw [if_neg Bool.false_ne_true]
        exact Go.done g3 E4 _ (.fz (.bl _))
      | true =>
        rw [if_pos rfl]
        exact tO_bind E4 g3 fun w c1 ρ4 H4 F4 E5 o5 g5 v5 => op2_end pv' E5 ((o2.evo v3).evo v5) o5 g5 fun d H' F' Fl v _ k o _ _ => k v o
    | _ => exact g3.elim
theorem dx_chain {op op' : CmpOp} {r r' : R2} {gg gg' : D → D → Option D} (ho : OpR X (compareOp op) r) (ho' : OpR X (compareOp op') r') (pv : PV2 G.B r .fz gg) (pv' : PV2 G.B r' .fz gg') (ha : DO X G W a fa) (hb : DO X G W b fb) (hc : DO X G W c fc)
    (hm : lastMarks [op, op'] [b, c] = false) : DX X G W .fz (.Compare a [op, op'] [b, c] pos) (eChain gg gg' fa fb fc) :=
  PE.imp (pe_chain ho ho' ha hb hc hm) fun σ H Q h => chain_end (op := op) (op' := op') pv pv' h
theorem dt_chain {op op' : CmpOp} {r r' : R2} {gg gg' : D → D → Option D} (ho : OpR X (compareOp op) r) (ho' : OpR X (compareOp op') r') (pv : PV2 G.B r .fz gg) (pv' : PV2 G.B r' .fz gg') (ha : DO X G W a fa) (hb : DO X G W b fb) (hc : DO X G W c fc)
    (hm : lastMarks [op, op'] [b, c] = false) : DT X G W (.Compare a [op, op'] [b, c] pos) (bOf (eChain gg gg' fa fb fc)) :=
  PT.imp (pt_chain ho ho' ha hb hc hm) fun σ H Q ⟨F, ρ, E, g⟩ => by
    refine chain_end (op := op) (op' := op') (W := W) pv pv' ⟨F, ρ, E, (Go.bind g).imp fun d ρ1 H1 F1 Fl ⟨v1, fo, E1, g1⟩ v o => ?_⟩
    obtain ⟨rfl, _⟩ := Own.fz_inv o
    rw [Sg.add_nil] at E1
    cases d with
    | bool q => exact ⟨q, own_bool o, Go.done g1 E1 rfl⟩
    | _ => exact g1.elim

/-! ### isinstance of a built-in type -/
inductive TyN where
  | int | bool | str | tuple | list
def TyN.name : TyN → String
  | .int => "int"
  | .bool => "bool"
  | .str => "str"
  | .tuple => "tuple"
  | .list => "list"
def isi : TyN → D → Bool
  | .int, .int _ => true
  | .int, .bool _ => true
  | .bool, .bool _ => true
  | .str, .str _ => true
  | .tuple, .tuple _ => true
  | .list, .list _ => true
  | _, _ => false
def isiD (n : TyN) : D → Option D
  | .dict _ => none
  | d => some (.bool (isi n d))
def tyD : D → String
  | .none => "NoneType"
  | .bool _ => "bool"
  | .int _ => "int"
  | .str _ => "str"
  | .list _ => "list"
  | .tuple _ => "tuple"
  | .dict _ => "dict"
theorem kt_bool : ∀ n : TyN, kitB "bool" n.name = some (match n with | .int => true | .bool => true | _ => false) := by intro n; cases n <;> decide +kernel
theorem kt_int : ∀ n : TyN, kitB "int" n.name = some (match n with | .int => true | _ => false) := by intro n; cases n <;> decide +kernel
theorem kt_str : ∀ n : TyN, kitB "str" n.name = some (match n with | .str => true | _ => false) := by intro n; cases n <;> decide +kernel
theorem kt_list : ∀ n : TyN, kitB "list" n.name = some (match n with | .list => true | _ => false) := by intro n; cases n <;> decide +kernel
theorem kt_tuple : ∀ n : TyN, kitB "tuple" n.name = some (match n with | .tuple => true | _ => false) := by intro n; cases n <;> decide +kernel
theorem kt_none : ∀ n : TyN, kitB "NoneType" n.name = some false := by intro n; cases n <;> decide +kernel
theorem kit_isi (n : TyN) : ∀ d : D, (∀ es, d ≠ .dict es) → kitB (tyD d) n.name = some (isi n d)
  | .none, _ => by have h := kt_none n; cases n <;> exact h
  | .bool _, _ => by have h := kt_bool n; cases n <;> exact h
  | .int _, _ => by have h := kt_int n; cases n <;> exact h
  | .str _, _ => by have h := kt_str n; cases n <;> exact h
  | .list _, _ => by have h := kt_list n; cases n <;> exact h
  | .tuple _, _ => by have h := kt_tuple n; cases n <;> exact h
  | .dict es, h => absurd rfl (h es)
theorem rq_ty {B : Bs} {H : Hp} {W : Wr} {v : V} {d : D} (h : Rq B H W v d) (nd : ∀ es, d ≠ .dict es) : TyX B.2.2 H v (.type (tyD d)) := by
  cases d with
  | none => rw [rq_none h]; exact .base .non
  | bool q => rw [rq_bool h]; exact .base (.bl _)
  | int q => rw [rq_int h]; exact .base (.int _)
  | str q => rw [(rq_str h).1]; exact .base (.str _)
  | list ds =>
    obtain ⟨p, xs, rfl, rd, _⟩ := rq_list h
    rcases rd with (rd | ⟨o, rd⟩) | ⟨its, n, e, _⟩
    · exact .base (.lst rd)
    · exact .base (.frz rd)
    · exact .kList e rfl
  | tuple ds =>
    obtain ⟨p, xs, rfl, rd, _⟩ := rq_tup h
    rcases rd with rd | ⟨o, rd⟩
    · exact .base (.tup rd)
    · exact .fTuple rd
  | dict es => exact absurd rfl (nd es)
theorem dx_isi (n : TyN) {p p2 : Pos} {y : Str} (hB : G.B.2.2 = X.K) (hg : Gl X "isinstance") (hm : X.mg "isinstance" = none) (hg2 : Gl X y) (hm2 : X.mg y = none) (hv2 : bootBuiltins y = some (.type n.name)) (ha : DO X G W a fa) (hv : bootBuiltins "isinstance" = some (.builtin "isinstance"))
    (hn2 : y ≠ "__name__" := by decide) (hd2 : (y == ("__debug__" : Str)) = false := by decide)
    (he : starEach [a, .Name y p2] X.env = (false, eval a X.env) :: starEach [.Name y p2] X.env := by rfl) (he2 : starEach [.Name y p2] X.env = (false, eval (.Name y p2) X.env) :: starEach [] X.env := by rfl) (hpl : (backTo pos (starEach [.Name y p2] X.env)).any (·.1) = false := by rfl) :
    DX X G W .fz (.Call (.Name "isinstance" p) [a, .Name y p2] [] pos) (eOp1 (isiD n) fa) :=
  PE.imp (pe_callB call_isi hg hm hv (pa_cons ha (pa_cons (pe_bltn (v := .ty n.name) hg2 hm2 hv2 rfl hn2 hd2) pa_nil he2) he) (by decide) (by decide) he hpl) fun σ H Q ⟨F, ρ, E, g⟩ =>
    tO_bind E g fun v a1 ρ1 H1 F1 E1 o1 g1 _ => by
      cases e1 : deref ρ1 a1 with
      | none => rw [e1] at g1; exact g1.elim
      | some d =>
        simp only [e1] at g1
        have nd : ∀ es, d ≠ .dict es := fun es z => by subst z; exact g1.elim
        have hq : isiD n d = some (.bool (isi n d)) := by
          cases d <;> first | rfl | exact absurd rfl (nd _)
        rw [hq] at g1
        rw [← hB]
        exact ⟨v, .ty n.name, .type (tyD d), .type n.name, isi n d, rfl, .ty _, rq_ty (o1.rq E1 e1) nd, kit_ty (kit_isi n d nd), Go.done g1 E1 _ (.fz (.bl _))⟩

/-! ### o.m(..), nothing changed -/
def isTyp (T : String) : D → Bool
  | .str _ => T == "str"
  | .list _ => T == "list"
  | _ => false
def gIf (T : String) (g : D → List D → Option D) : D → List D → Option D := fun d ds => if isTyp T d = true then g d ds else none
theorem isTyp_tyV {B : Bs} {H : Hp} {W : Wr} {v : V} {d : D} {T : String} (h : isTyp T d = true) (r : Rq B H W v d) : tyV B.2.2 T v H := by
  cases d with
  | str z =>
    rw [(rq_str r).1]
    exact eq_of_beq h
  | list ds =>
    obtain ⟨a, xs, rfl, rd, _⟩ := rq_list r
    exact .inl ⟨eq_of_beq h, xs, rd.sq⟩
  | _ => cases h
def eMt1 (T : String) (g : D → List D → Option D) (fo : Env → Res Arg) (f : Env → Res (List Arg)) : Env → Res D := fun ρ => bnd (fo ρ) fun a ρ1 => match deref ρ1 a with
  | some x => if isTyp T x = true then bnd (f ρ1) fun as ρ2 => match derefs ρ2 as with
      | some ds => match deref ρ2 a with
        | some x2 => ofO (g x2 ds) ρ2
        | none => .err
      | none => .err
    else .err
  | none => .err
def PVmt (B : Bs) (r : V → List V → Hp → VK → Prop) (t : T) (g : D → List D → Option D) : Prop := ∀ x xs d ds H (W : Wr) (Q : VK) z, Rq B H W x d → RqAll B H W xs ds → g d ds = some z → (∀ a, W a → ∃ o, H a = some o) → VOut B H W t z Q → r x xs H Q
theorem dx_mt {Ty id : String} {name : Str} {r : V → List V → Hp → VK → Prop} {g : D → List D → Option D} (hB : G.B.2.2 = X.K) (pa : PlainAttrs Ty) (slot : Slot Ty name id) (hty : typeOf (.builtin id) = pure (.type "method_descriptor")) (hm : MtR X id r) (pv : PVmt G.B r t g) (ho : DO X G W a fa) (ha : DA X G W (e :: es) fs)
    (hbase : attributeBase a name X.env (eval a X.env) = eval a X.env)
    (hfew : ((backTo cpos (starEach (e :: es) X.env)).all (fun x => !x.1) && (backToKw cpos (keywordEach [] X.env)).all (fun x => x.1.isSome)
      && decide ((e :: es).length + ([] : List Keyword).length + (if ([] : List Keyword).isEmpty then 0 else 1) < 30)) = true)
    (hline : (apos.endLine == cpos.line) = true) (hs : starEach (e :: es) X.env = (false, eval e X.env) :: starEach es X.env) (hplain : (backTo cpos (starEach es X.env)).any (·.1) = false) :
    DX X G W t (.Call (.Attribute a name apos) (e :: es) [] cpos) (eMt1 Ty g fa fs) :=
  PE.imp (pe_bm pa slot hty hm ho ha hbase hfew hline hs hplain) fun σ H Q ⟨F, ρ, E, gg⟩ => tO_bind E gg fun v a1 ρ1 H1 F1 E1 o1 g1 _ => by
    cases e1 : deref ρ1 a1 with
    | none => rw [e1] at g1; exact g1.elim
    | some d =>
      simp only [e1] at g1
      by_cases hT : isTyp Ty d = true
      · rw [if_pos hT] at g1
        refine ⟨hB ▸ isTyp_tyV hT (o1.rq E1 e1), tAs_bind E1 g1 fun vs as ρ2 H2 F2 E2 os g2 v2 => ?_⟩
        cases e2 : derefs ρ2 as with
        | none => rw [e2] at g2; exact g2.elim
        | some ds =>
          simp only [e2] at g2
          cases e3 : deref ρ2 a1 with
          | none => rw [e3] at g2; exact g2.elim
          | some d2 =>
            simp only [e3] at g2
            cases e4 : g d2 ds with
            | none => rw [e4] at g2; exact g2.elim
            | some z =>
              rw [e4] at g2
              exact pv v vs d2 ds H2 (Wof F2 G.O) Q z ((o1.evo v2).rq E2 e3) (os.rq E2 e2) e4 (there_W E2) fun u H' Fl k hn nd o => let ⟨h3, o'⟩ := Go.fin g2 E2 k hn nd o; h3 u o'
      · rw [if_neg hT] at g1; exact g1.elim
theorem dx_mt0 {Ty id : String} {name : Str} {r : V → List V → Hp → VK → Prop} {g : D → List D → Option D} (hB : G.B.2.2 = X.K) (pa : PlainAttrs Ty) (slot : Slot Ty name id) (hty : typeOf (.builtin id) = pure (.type "method_descriptor")) (hm : MtR X id r) (pv : PVmt G.B r t g) (ho : DO X G W a fa)
    (hbase : attributeBase a name X.env (eval a X.env) = eval a X.env) (hline : (apos.endLine == cpos.line) = true) :
    DX X G W t (.Call (.Attribute a name apos) [] [] cpos) (eMt1 Ty g fa aNil) :=
  PE.imp (pe_bm0 pa slot hty hm ho hbase hline) fun σ H Q ⟨F, ρ, E, gg⟩ => tO_bind E gg fun v a1 ρ1 H1 F1 E1 o1 g1 _ => by
    cases e1 : deref ρ1 a1 with
    | none => rw [e1] at g1; exact g1.elim
    | some d =>
      simp only [e1] at g1
      by_cases hT : isTyp Ty d = true
      · rw [if_pos hT] at g1
        refine ⟨hB ▸ isTyp_tyV hT (o1.rq E1 e1), ?_⟩
        simp only [aNil, bnd_ok, derefs, e1] at g1
        cases e4 : g d [] with
        | none => rw [e4] at g1; exact g1.elim
        | some z =>
          rw [e4] at g1
          exact pv v [] d [] H1 (Wof F1 G.O) Q z (o1.rq E1 e1) .nil e4 (there_W E1) fun u H' Fl k hn nd o => let ⟨h3, o'⟩ := Go.fin g1 E1 k hn nd o; h3 u o'
      · rw [if_neg hT] at g1; exact g1.elim

/-! ### a slot's own list changed by a method -/
def PVmu (B : Bs) (r : V → List V → Hp → VK → Prop) (g : List D → List D → Option (D × List D)) : Prop := ∀ l xs ds ys es H (W : Wr) (Q : VK) z ds', H l = some (.lst xs) → ds.length ≤ lim → RpAll B H W xs ds → RpAll B H W ys es → g ds es = some (z, ds') →
  (∀ v xs', Rp B H W v z → RpAll B H W xs' ds' → Q v (upd H l (.lst xs'))) → r (.ref l) ys H Q
def eMut (j : Nat) (g : List D → List D → Option (D × List D)) (fs : Env → Res (List Arg)) : Env → Res D := fun ρ => match slotD ρ j with
  | some (.list _) => bnd (fs ρ) fun as ρ1 => match slotD ρ1 j, valsOf as with
    | some (.list ds), some es => match g ds es with
      | some (z, ds') => if ds'.length ≤ lim then .ok z (ρ1.set j (some (.list ds'))) else .err
      | none => .err
    | _, _ => .err
  | _ => .err
theorem Rp.updW {B : Bs} {H : Hp} {W : Wr} {p : Addr} {o : HO} {v : V} {d : D} (h : Rp B H W v d) (hp : W p) : Rp B (upd H p o) W v d :=
  Rp.keep (fun a u e n => by rw [upd_ne (fun q : a = p => n (by rw [q]; exact hp))]; exact e) (fun a q => .inl q) d h
theorem EnvOk.mutL {σ : L2.St} {H : Hp} {F : Nat → List Addr} {ρ : Env} {l : Addr} {xs' : List V} {ds' : List D} (E : EnvOk G σ ρ H F) (hΓ : G.Γ j = .lst .fz) (hσ : σ[j]? = some (some (.ref l))) (hF : F j = [l]) (hl : ds'.length ≤ lim) (r : RpAll G.B H (Wof F G.O) xs' ds') :
    EnvOk G σ (ρ.set j (some (.list ds'))) (upd H l (.lst xs')) F ∧ Evo H F (upd H l (.lst xs')) F [] := by
  have hW : Wof F G.O l := .inl ⟨j, by rw [hF]; exact List.mem_cons_self⟩
  have nF : ∀ i a, i ≠ j → a ∈ F i → a ≠ l := fun i a ne h q => by
    subst q
    exact ne (E.dj i j a h (by rw [hF]; exact List.mem_cons_self))
  have nO : ∀ a, G.O a → a ≠ l := fun a h q => by
    subst q
    exact E.og j a (by rw [hF]; exact List.mem_cons_self) h
  refine ⟨⟨by simpa using E.len, fun i d e => ?_, E.nd, E.dj, E.og, fun i a h => ?_, fun a h => ?_, E.pn, E.ff⟩, ⟨fun a o e n => ?_, fun a z => .inl (z.elim id fun q => nomatch q)⟩⟩
  · rcases get_set_some e with ⟨rfl, e1, _⟩ | ⟨ne, e⟩
    · cases e1
      refine ⟨_, hσ, ?_⟩
      rw [hΓ, hF]
      exact Own.lst_of upd_same hl (r.updO hW)
    · obtain ⟨v, h1, h2⟩ := E.slot i d e
      refine ⟨v, h1, Own.keep (fun a q => .inl q) d (fun a u e z => ?_) h2⟩
      rw [upd_ne]
      · exact e
      · rcases z with z | z
        · exact nF i a ne z
        · exact fun q => z (by rw [q]; exact hW)
  · obtain ⟨u, e⟩ := E.hv i a h
    by_cases q : a = l
    · subst q; exact ⟨_, upd_same⟩
    · exact ⟨u, by rw [upd_ne q]; exact e⟩
  · obtain ⟨u, e⟩ := E.oh a h
    exact ⟨u, by rw [upd_ne (nO a h)]; exact e⟩
  · rw [upd_ne]
    · exact e
    · exact fun q => n j (by rw [q, hF]; exact List.mem_cons_self)
theorem mut_end {σ : L2.St} {H1 : Hp} {F1 : Nat → List Addr} {ρ1 : Env} {v : V} {vs : List V} {as : List Arg} {Q : VK} {r : V → List V → Hp → VK → Prop} {g : List D → List D → Option (D × List D)} (hΓ : G.Γ j = .lst .fz) (pv : PVmu G.B r g) (hσ : σ[j]? = some (some v)) (E1 : EnvOk G σ ρ1 H1 F1) (os : ArgsOk G σ H1 F1 vs as)
    (g1 : Go G W σ (match slotD ρ1 j, valsOf as with
    | some (.list ds), some es => match g ds es with
      | some (z, ds') => if ds'.length ≤ lim then .ok z (ρ1.set j (some (.list ds'))) else .err
      | none => .err
    | _, _ => .err) H1 F1 fun d _ H' F' Fl => ∀ v, Own G.B H' (Wof F' (G.add Fl).O) .fz v d Fl → Q v H') : r v vs H1 Q := by
  cases q : slotD ρ1 j with
  | none => simp only [q] at g1; exact g1.elim
  | some d =>
    cases d with
    | list ds =>
      cases q2 : valsOf as with
      | none => simp only [q, q2] at g1; exact g1.elim
      | some es =>
        simp only [q, q2] at g1
        cases q3 : g ds es with
        | none => simp only [q3] at g1; exact g1.elim
        | some p =>
          obtain ⟨z, ds'⟩ := p
          simp only [q3] at g1
          by_cases hl : ds'.length ≤ lim
          · rw [if_pos hl] at g1
            obtain ⟨u, h1, h2⟩ := E1.slot j _ (slotD_some q)
            rw [hσ] at h1
            cases h1
            rw [hΓ] at h2
            obtain ⟨l, xs, rfl, hF, hH, hll, ra⟩ := Own.lst_inv h2
            have hW : Wof F1 G.O l := .inl ⟨j, by rw [hF]; exact List.mem_cons_self⟩
            refine pv l xs ds vs es H1 (Wof F1 G.O) Q z ds' hH hll ra (os.vals q2) q3 fun w xs' rw_ rs => ?_
            obtain ⟨E2, ev⟩ := E1.mutL hΓ hσ hF hl rs
            refine g1 _ F1 [] ev FlOk.nil (by rw [Sg.add_nil]; exact E2) w ?_
            rw [Sg.add_nil]
            exact .fz (rw_.updW hW)
          · rw [if_neg hl] at g1; exact g1.elim
    | _ => simp only [q] at g1; exact g1.elim
theorem own_list_ty {K : PySem.W.Frag} {σ : L2.St} {H : Hp} {F : Nat → List Addr} {ρ : Env} {ds : List D} (E : EnvOk G σ ρ H F) (hΓ : G.Γ j = .lst .fz) (q : slotD ρ j = some (.list ds)) : ∃ v, σ[j]? = some (some v) ∧ tyV K "list" v H := by
  obtain ⟨v, h1, h2⟩ := E.slot j _ (slotD_some q)
  rw [hΓ] at h2
  obtain ⟨l, xs, rfl, hF, hH, hll, ra⟩ := Own.lst_inv h2
  exact ⟨_, h1, .inl ⟨rfl, xs, .inl (.inl hH)⟩⟩
theorem dx_mut {id : String} {name : Str} {r : V → List V → Hp → VK → Prop} {g : List D → List D → Option (D × List D)} {p : Pos} (hΓ : G.Γ j = .lst .fz) (hN : X.N[j]? = some x) (hv : Vis X.env.scope x) (pa : PlainAttrs "list") (slot : Slot "list" name id) (hty : typeOf (.builtin id) = pure (.type "method_descriptor")) (hm : MtR X id r) (pv : PVmu G.B r g) (ha : DA X G W (e :: es) fs)
    (hbase : attributeBase (.Name x p) name X.env (eval (.Name x p) X.env) = eval (.Name x p) X.env)
    (hfew : ((backTo cpos (starEach (e :: es) X.env)).all (fun x => !x.1) && (backToKw cpos (keywordEach [] X.env)).all (fun x => x.1.isSome)
      && decide ((e :: es).length + ([] : List Keyword).length + (if ([] : List Keyword).isEmpty then 0 else 1) < 30)) = true)
    (hline : (apos.endLine == cpos.line) = true) (hs : starEach (e :: es) X.env = (false, eval e X.env) :: starEach es X.env) (hplain : (backTo cpos (starEach es X.env)).any (·.1) = false)
    (hd : (x == ("__debug__" : Str)) = false := by decide) (hcd : (x == ("__classdict__" : Str)) = false := by decide) :
    DX X G W .fz (.Call (.Attribute (.Name x p) name apos) (e :: es) [] cpos) (eMut j g fs) :=
  PE.imp (pe_bm pa slot hty hm (pe_var hN hv hd hcd) ha hbase hfew hline hs hplain) fun σ H Q ⟨F, ρ, E, gg⟩ => by
    unfold eMut at gg
    cases q : slotD ρ j with
    | none => simp only [q] at gg; exact gg.elim
    | some d =>
      cases d with
      | list ds =>
        simp only [q] at gg
        obtain ⟨v, h1, ty⟩ := own_list_ty (K := X.K) E hΓ q
        exact ⟨v, h1, ty, tAs_bind E gg fun vs as ρ1 H1 F1 E1 os g1 _ => mut_end hΓ pv h1 E1 os g1⟩
      | _ => simp only [q] at gg; exact gg.elim
theorem dx_mut0 {id : String} {name : Str} {r : V → List V → Hp → VK → Prop} {g : List D → List D → Option (D × List D)} {p : Pos} (hΓ : G.Γ j = .lst .fz) (hN : X.N[j]? = some x) (hv : Vis X.env.scope x) (pa : PlainAttrs "list") (slot : Slot "list" name id) (hty : typeOf (.builtin id) = pure (.type "method_descriptor")) (hm : MtR X id r) (pv : PVmu G.B r g)
    (hbase : attributeBase (.Name x p) name X.env (eval (.Name x p) X.env) = eval (.Name x p) X.env) (hline : (apos.endLine == cpos.line) = true)
    (hd : (x == ("__debug__" : Str)) = false := by decide) (hcd : (x == ("__classdict__" : Str)) = false := by decide) :
    DX X G W .fz (.Call (.Attribute (.Name x p) name apos) [] [] cpos) (eMut j g aNil) :=
  PE.imp (pe_bm0 pa slot hty hm (pe_var hN hv hd hcd) hbase hline) fun σ H Q ⟨F, ρ, E, gg⟩ => by
    unfold eMut at gg
    cases q : slotD ρ j with
    | none => simp only [q] at gg; exact gg.elim
    | some d =>
      cases d with
      | list ds =>
        simp only [q] at gg
        obtain ⟨v, h1, ty⟩ := own_list_ty (K := X.K) E hΓ q
        refine ⟨v, h1, ty, ?_⟩
        refine mut_end (W := W) hΓ pv h1 E (as := []) .nil ?_
        simp only [aNil, bnd_ok] at gg
        rw [q] at gg
        rw [q]
        exact gg
      | _ => simp only [q] at gg; exact gg.elim
end
/-! the changing methods -/
def appD : List D → List D → Option (D × List D)
  | ds, [e] => if ds.length < lim then some (.none, ds ++ [e]) else none
  | _, _ => none
theorem pv_append {B : Bs} : PVmu B rAppend appD := by
  intro l xs ds ys es H W Q z ds' hH hl ra rb hg k
  match es, rb, hg with
  | [], _, hg => simp [appD] at hg
  | [e], rb, hg =>
    cases rb with
    | cons r rn =>
      cases rn
      simp only [appD] at hg
      split at hg
      · rename_i hlt
        cases hg
        exact ⟨l, xs, _, rfl, rfl, hH, by rw [ra.length]; exact lim_lt hlt, k .non _ .non (ra.append (.one r))⟩
      · cases hg
  | _ :: _ :: _, _, hg => simp [appD] at hg
def extD : List D → List D → Option (D × List D)
  | ds, [.list es] => if ds.length + es.length ≤ lim then some (.none, ds ++ es) else none
  | _, _ => none
end PD

set_option Elab.async false
set_option linter.all false
set_option maxRecDepth 100000
set_option maxHeartbeats 4000000
/-! PDk: defs, calls of them, try. -/
namespace PD
open PySem PySem.Spec PyProof.Rows L2 RZ

/-! ### a def's worth, by its body's -/
def pinAt (p : Option Nat) (vs : List V) : Nat → Option V := fun i => match p with
  | none => none
  | some j => if i = j then vs[j]? else none
def outE (p : Option Nat) (n : Nat) (ρ : Env) : Env := match p with
  | none => List.replicate n none
  | some j => (List.replicate n none).set j (slotD ρ j)
def fnM (p : Option Nat) (n k : Nat) (body : Env → SR) : List D → Res D := fun ds => match body (ds.map some ++ List.replicate k none) with
  | .nx ρ => .ok .none (outE p n ρ)
  | .ret d ρ => .ok d (outE p n ρ)
  | .exc c ρ => .exc c (outE p n ρ)
  | .brk _ => .err
  | .ct _ => .err
  | .err => .err
def gF (B : Bs) (Γ : Nat → T) (cl : Nat → Value) (p : Option Nat) (O : Wr) (vs : List V) : Sg := ⟨B, Γ, O, pinAt p vs, cl⟩
def wE (E : XK) : WX := fun c d _ H => E c d H
def spF (B : Bs) (Γ : Nat → T) (cl : Nat → Value) (p : Option Nat) (n : Nat) (tr : T) (m : List D → Res D) : Sp := fun vs H Q E =>
  vs.length = n ∧ ∃ O F ds, EnvOk (gF B Γ cl p O vs) (vs.map some) (ds.map some) H F ∧ (∀ i, p ≠ some i → F i = []) ∧
    Go (gF B Γ cl p O vs) (wE E) (vs.map some) (m ds) H F fun d _ H' F' Fl => (∀ i, p ≠ some i → F' i = []) → ∀ v, Own B H' (Wof F' ((gF B Γ cl p O vs).add Fl).O) tr v d Fl → Q v H'
def keepF (p : Option Nat) (F : Nat → List Addr) : Nat → List Addr := fun i => match p with
  | none => []
  | some j => if i = j then F j else []
theorem keepF_sub {p : Option Nat} {F : Nat → List Addr} {i : Nat} {a : Addr} (h : a ∈ keepF p F i) : p = some i ∧ a ∈ F i := by
  unfold keepF at h
  cases p with
  | none => cases h
  | some j =>
    simp only at h
    split at h
    · rename_i e; subst e; exact ⟨rfl, h⟩
    · cases h
theorem keepF_at {F : Nat → List Addr} {j : Nat} : keepF (some j) F j = F j := by simp [keepF]
theorem keepF_not {p : Option Nat} {F : Nat → List Addr} {i : Nat} (h : p ≠ some i) : keepF p F i = [] := by
  unfold keepF
  cases p with
  | none => rfl
  | some j => exact if_neg fun e => h (by rw [e])
theorem start_get {vs : List V} {k i : Nat} {v : V} (h : (vs.map some)[i]? = some (some v)) : (vs.map some ++ List.replicate k none)[i]? = some (some v) := by
  rw [List.getElem?_append_left]
  · exact h
  · exact (List.getElem?_eq_some_iff.mp h).1
section
variable {G : Sg} {σ σ' : L2.St} {ρ ρ' : Env} {H H' : Hp} {F F' : Nat → List Addr} {vs : List V} {ds : List D} {n k : Nat} {p : Option Nat}
/-- at the entry: the other slots are empty -/
theorem EnvOk.start (E : EnvOk G (vs.map some) (ds.map some) H F) : EnvOk G (vs.map some ++ List.replicate k none) (ds.map some ++ List.replicate k none) H F := by
  refine ⟨?_, fun i d h => ?_, E.nd, E.dj, E.og, E.hv, E.oh, fun i v h => ?_, E.ff⟩
  · have := E.len
    simp only [List.length_append, this]
    simp
  · by_cases hi : i < (ds.map some).length
    · rw [List.getElem?_append_left hi] at h
      obtain ⟨v, h1, h2⟩ := E.slot i d h
      exact ⟨v, start_get h1, h2⟩
    · rw [List.getElem?_append_right (by omega), List.getElem?_replicate] at h
      split at h <;> cases h
  · exact start_get (E.pn i v h)
theorem outE_len {p : Option Nat} {n : Nat} {ρ : Env} : (outE p n ρ).length = n := by
  unfold outE
  cases p <;> simp
theorem outE_some {p : Option Nat} {n : Nat} {ρ : Env} {i : Nat} {d : D} (h : (outE p n ρ)[i]? = some (some d)) : p = some i ∧ slotD ρ i = some d := by
  unfold outE at h
  cases p with
  | none =>
    simp only at h
    rw [List.getElem?_replicate] at h
    split at h <;> cases h
  | some j =>
    simp only at h
    have h' : ((List.replicate n (none : Option D)).set j (slotD ρ j))[i]? = some (some d) := h
    by_cases e : i = j
    · subst e
      by_cases hl : i < n
      · rw [List.getElem?_set_self (by simpa using hl)] at h'
        exact ⟨rfl, Option.some.inj h'⟩
      · rw [List.getElem?_eq_none (by simpa using hl)] at h'
        cases h'
    · rw [List.getElem?_set_ne (Ne.symm e), List.getElem?_replicate] at h'
      split at h' <;> cases h'
/-- at the end: what is pinned stays -/
theorem EnvOk.finish {B : Bs} {Γ : Nat → T} {cl : Nat → Value} {O : Wr} (hn : vs.length = n) (E : EnvOk (gF B Γ cl p O vs) σ' ρ' H' F') : EnvOk (gF B Γ cl p O vs) (vs.map some) (outE p n ρ') H' (keepF p F') where
  len := by rw [outE_len, List.length_map, hn]
  slot := fun i d h => by
    obtain ⟨hp, hd⟩ := outE_some h
    obtain ⟨v, h1, h2⟩ := E.slot i d (slotD_some hd)
    have hi : i < n := by
      have := (List.getElem?_eq_some_iff.mp h).1
      rwa [outE_len] at this
    have hv : (vs.map some)[i]? = some (some v) := by
      have : pinAt p vs i = some vs[i] := by
        unfold pinAt
        rw [hp]
        simp [hn ▸ hi]
      have z := E.pn i vs[i] this
      rw [h1] at z
      have z' : v = vs[i] := Option.some.inj (Option.some.inj z)
      rw [List.getElem?_map, List.getElem?_eq_getElem (by rw [hn]; exact hi), z']
      rfl
    refine ⟨v, hv, ?_⟩
    have e : keepF p F' i = F' i := by rw [hp]; exact keepF_at
    rw [e]
    exact h2.anti fun a z => by
      rcases z with ⟨j, hj⟩ | z
      · exact .inl ⟨j, (keepF_sub hj).2⟩
      · exact .inr z
  nd := fun i => by
    by_cases e : p = some i
    · subst e; rw [keepF_at]; exact E.nd i
    · rw [keepF_not e]; exact List.nodup_nil
  dj := fun i j a h1 h2 => E.dj i j a (keepF_sub h1).2 (keepF_sub h2).2
  og := fun i a h => E.og i a (keepF_sub h).2
  hv := fun i a h => E.hv i a (keepF_sub h).2
  oh := E.oh
  pn := fun i v h => by
    have h' : pinAt p vs i = some v := h
    unfold pinAt at h'
    cases p with
    | none => cases h'
    | some j =>
      simp only at h'
      split at h'
      · rename_i e; subst e
        rw [List.getElem?_map, h']; rfl
      · cases h'
  ff := fun i h => by
    by_cases e : p = some i
    · subst e; rw [keepF_at]; exact E.ff i h
    · exact keepF_not e
theorem Evo.keepF {Fl : List Addr} (e : Evo H F H' F' Fl) : Evo H F H' (PD.keepF p F') Fl := ⟨e.keep, fun a z => e.new a (z.imp (fun ⟨j, hj⟩ => ⟨j, (keepF_sub hj).2⟩) id)⟩
end
theorem fn_body {B : Bs} {Γ : Nat → T} {cl : Nat → Value} {p : Option Nat} {n k : Nat} {tr : T} {body : Env → SR} {vs : List V} {H : Hp} {Q : VK} {E : XK} (h : spF B Γ cl p n tr (fnM p n k body) vs H Q E) :
    vs.length = n ∧ ∃ O, tS (gF B Γ cl p O vs) (wE E) tr body { nx := fun _ H' => Q .non H', rt := Q } (vs.map some ++ List.replicate k none) H := by
  obtain ⟨hn, O, F, ds, E0, hF, g⟩ := h
  refine ⟨hn, O, F, _, E0.start, ?_⟩
  unfold fnM at g
  cases q : body (ds.map some ++ List.replicate k none) with
  | nx ρ =>
    simp only [q] at g
    intro σ' H' F' ev E'
    refine g H' (keepF p F') [] ev.keepF FlOk.nil (by rw [Sg.add_nil]; exact E'.finish hn) (fun i hi => keepF_not hi) .non (.imm rfl .non)
  | ret d ρ =>
    simp only [q] at g
    intro σ' H' F' Fl ev fo E' v o
    have E2 := EnvOk.finish (B := B) (Γ := Γ) (cl := cl) (O := fun a => O a ∨ a ∈ Fl) hn E'
    refine g H' (keepF p F') Fl ev.keepF fo E2 (fun i hi => keepF_not hi) v (o.anti fun a z => ?_)
    exact z.imp (fun ⟨j, hj⟩ => ⟨j, (keepF_sub hj).2⟩) id
  | exc c ρ =>
    simp only [q] at g
    intro σ' H' F' ev E'
    exact g H' (keepF p F') ev.keepF (E'.finish hn)
  | brk ρ => simp only [q] at g; exact g.elim
  | ct ρ => simp only [q] at g; exact g.elim
  | err => simp only [q] at g; exact g.elim
theorem fn_ok {P : Program} {w : World} {K : PySem.W.Frag} {mg : Str → Option Value} {base : Heap} {x qual : Str} {st : Stmt} {f : Addr} {fd : FuncData} {N ps : List Str} {lev : Nat} {Γ : Nat → T} {cl : Nat → Value} {p : Option Nat} {n k : Nat} {tr : T} {body : Env → SR}
    (Fn : Fun K x qual st f fd) (S : FnScope N ps (defScope st)) (hN : N.length = n + k) (hps : ps.length = n)
    (hb : ∀ (cdv : Value) (A : Around) (outer : List PySem.Env) (s : Shared) (H : Hp) (E : XK) (O : Wr) (vs : List V), Room lev (A.deeper (envOfC qual (defScope st) s.heap.objs.size f cdv)) →
      DSs (cxOf (L2.CX P w) P w K mg base N qual (defScope st) f cdv A outer s H E) (gF (P, w, K) Γ cl p O vs) (wE E) tr (defBody st) body) :
    FnOk P w K mg base (L2.CX P w) (lev + 1) f fd ps (spF (P, w, K) Γ cl p n tr (fnM p n k body)) :=
  Fn.okX S (fun vs H Q E h => by rw [h.1, hps]) fun cdv A outer s H vs Q E hr hsp => by
    obtain ⟨hn, O, h⟩ := fn_body hsp
    refine ⟨_, hb cdv A outer s H E O vs hr, ?_⟩
    unfold L2.start
    rw [hN, hn, Nat.add_sub_cancel_left]
    exact h

/-! ### calls -/
def argIn (ρ : Env) : Option (Nat × Nat) → Nat → List Arg → Option (List D)
  | _, _, [] => some []
  | p, i, .val d :: as => if p.map Prod.fst = some i then none else (argIn ρ p (i + 1) as).map fun ds => d :: ds
  | p, i, .lnd j :: as => if p = some (i, j) then (slotD ρ j).bind fun d => (argIn ρ p (i + 1) as).map fun ds => d :: ds else none
  | _, _, .io _ :: _ => none
def putOut (p : Option (Nat × Nat)) (ρ os : Env) : Env := match p with
  | none => ρ
  | some (i, j) => ρ.set j (slotD os i)
def callM (n : Nat) (p : Option (Nat × Nat)) (m : List D → Res D) (as : List Arg) (ρ : Env) : Res D := match argIn ρ p 0 as with
  | some ds => if ds.length = n ∧ (∀ q, p = some q → q.1 < n) then match m ds with
      | .ok d os => .ok d (putOut p ρ os)
      | .exc c os => .exc c (putOut p ρ os)
      | .err => .err
    else .err
  | none => .err
def eCall (n : Nat) (p : Option (Nat × Nat)) (m : List D → Res D) (fs : Env → Res (List Arg)) : Env → Res D := fun ρ => bnd (fs ρ) fun as ρ1 => callM n p m as ρ1
def isFz : T → Bool
  | .fz => true
  | _ => false
def fzAll (Γ : Nat → T) (p : Option Nat) (n : Nat) : Bool := (List.range n).all fun i => p == some i || isFz (Γ i)
theorem fzAll_at {Γ : Nat → T} {p : Option Nat} {n i : Nat} (h : fzAll Γ p n = true) (hi : i < n) (hp : p ≠ some i) : Γ i = .fz := by
  unfold fzAll at h
  have := List.all_eq_true.mp h i (List.mem_range.mpr hi)
  rw [Bool.or_eq_true] at this
  rcases this with q | q
  · exact absurd (eq_of_beq q) hp
  · cases e : Γ i with
    | fz => rfl
    | lst t => rw [e] at q; cases q
    | dct t => rw [e] at q; cases q
section
variable {G : Sg} {W : WX} {σ : L2.St} {ρ : Env} {H : Hp} {F : Nat → List Addr}
/-- what the arguments stand for -/
theorem argIn_at {p : Option (Nat × Nat)} : ∀ {as : List Arg} {vs : List V} {ds : List D} {i : Nat}, ArgsOk G σ H F vs as → argIn ρ p i as = some ds →
    vs.length = ds.length ∧ ∀ (k : Nat) d, ds[k]? = some d → ∃ v, vs[k]? = some v ∧ ((p.map Prod.fst ≠ some (i + k) ∧ Rp G.B H (Wof F G.O) v d) ∨ ∃ j, p = some (i + k, j) ∧ slotD ρ j = some d ∧ σ[j]? = some (some v))
  | [], _, _, _, h, e => by
    cases h
    unfold argIn at e
    cases e
    exact ⟨rfl, fun k d h => by simp at h⟩
  | .val x :: as, _, ds, i, h, e => by
    cases h with
    | cons h1 h2 =>
      unfold argIn at e
      split at e
      · cases e
      · rename_i hp
        obtain ⟨es, e1, rfl⟩ := Option.map_eq_some_iff.mp e
        obtain ⟨hl, hat⟩ := argIn_at h2 e1
        refine ⟨by simp [hl], fun k d hk => ?_⟩
        cases k with
        | zero =>
          cases hk
          exact ⟨_, rfl, .inl ⟨by simpa using hp, h1⟩⟩
        | succ k =>
          obtain ⟨v, q1, q2⟩ := hat k d (by simpa using hk)
          exact ⟨v, by simpa using q1, by simpa [Nat.add_assoc, Nat.add_comm 1 k] using q2⟩
  | .lnd j :: as, _, ds, i, h, e => by
    cases h with
    | cons h1 h2 =>
      unfold argIn at e
      split at e
      · rename_i hp
        obtain ⟨d0, hd, e⟩ := Option.bind_eq_some_iff.mp e
        obtain ⟨es, e1, rfl⟩ := Option.map_eq_some_iff.mp e
        obtain ⟨hl, hat⟩ := argIn_at h2 e1
        refine ⟨by simp [hl], fun k d hk => ?_⟩
        cases k with
        | zero =>
          cases hk
          exact ⟨_, rfl, .inr ⟨j, hp, hd, h1⟩⟩
        | succ k =>
          obtain ⟨v, q1, q2⟩ := hat k d (by simpa using hk)
          exact ⟨v, by simpa using q1, by simpa [Nat.add_assoc, Nat.add_comm 1 k] using q2⟩
      · cases e
  | .io _ :: _, _, _, _, _, e => by unfold argIn at e; cases e
def fIn (p : Option (Nat × Nat)) (F : Nat → List Addr) : Nat → List Addr := fun i => match p with
  | none => []
  | some (i', j) => if i = i' then F j else []
def oIn (p : Option (Nat × Nat)) (F : Nat → List Addr) (O : Wr) : Wr := fun a => O a ∨ ∃ k, a ∈ F k ∧ ∀ q, p = some q → k ≠ q.2
theorem fIn_of {p : Option (Nat × Nat)} {i : Nat} {a : Addr} (h : a ∈ fIn p F i) : ∃ j, p = some (i, j) ∧ a ∈ F j := by
  unfold fIn at h
  cases p with
  | none => cases h
  | some q =>
    obtain ⟨i', j⟩ := q
    simp only at h
    split at h
    · rename_i e; subst e; exact ⟨j, rfl, h⟩
    · cases h
theorem fIn_at {i j : Nat} : fIn (some (i, j)) F i = F j := by simp [fIn]
theorem wof_in {p : Option (Nat × Nat)} {O : Wr} (a : Addr) : Wof (fIn p F) (oIn p F O) a ↔ Wof F O a := by
  constructor
  · rintro (⟨i, hi⟩ | h | ⟨k, hk, _⟩)
    · obtain ⟨j, _, h⟩ := fIn_of hi
      exact .inl ⟨j, h⟩
    · exact .inr h
    · exact .inl ⟨k, hk⟩
  · rintro (⟨j, hj⟩ | h)
    · cases p with
      | none => exact .inr (.inr ⟨j, hj, fun q e => nomatch e⟩)
      | some q =>
        by_cases e : j = q.2
        · refine .inl ⟨q.1, ?_⟩
          obtain ⟨i', j'⟩ := q
          simp only at e
          subst e
          rw [fIn_at]; exact hj
        · exact .inr (.inr ⟨j, hj, fun q' e' => by cases e'; exact e⟩)
    · exact .inr (.inl h)
/-- the callee's environment -/
theorem call_in {p : Option (Nat × Nat)} {Γc : Nat → T} {vs : List V} {as : List Arg} {ds : List D} {n : Nat} (E : EnvOk G σ ρ H F) (os : ArgsOk G σ H F vs as) (ha : argIn ρ p 0 as = some ds) (hn : ds.length = n) (hΓ : fzAll Γc (p.map Prod.fst) n = true) (hp : ∀ q, p = some q → Γc q.1 = G.Γ q.2) :
    vs.length = n ∧ EnvOk (gF G.B Γc G.cl (p.map Prod.fst) (oIn p F G.O) vs) (vs.map some) (ds.map some) H (fIn p F) := by
  obtain ⟨hl, hat⟩ := argIn_at os ha
  refine ⟨by rw [hl, hn], by simp [hl], fun i d h => ?_, fun i => ?_, fun i j a h1 h2 => ?_, fun i a h q => ?_, fun i a h => ?_, fun a h => ?_, fun i v h => ?_, fun i h => ?_⟩
  · have hd : ds[i]? = some d := by
      rw [List.getElem?_map] at h
      cases e : ds[i]? with
      | none => rw [e] at h; cases h
      | some x => rw [e] at h; cases h; rfl
    obtain ⟨v, h1, h2⟩ := hat i d hd
    refine ⟨v, by rw [List.getElem?_map, h1]; rfl, ?_⟩
    have hi : i < n := by rw [← hn]; exact (List.getElem?_eq_some_iff.mp hd).1
    rw [Nat.zero_add] at h2
    rcases h2 with ⟨ne, r⟩ | ⟨j, rfl, hj, hσ⟩
    · show Own G.B H (Wof (fIn p F) (oIn p F G.O)) (Γc i) v d (fIn p F i)
      rw [fzAll_at hΓ hi ne]
      have e0 : fIn p F i = [] := by
        cases e : fIn p F i with
        | nil => rfl
        | cons a t =>
          obtain ⟨j, hj, _⟩ := fIn_of (p := p) (F := F) (i := i) (a := a) (by rw [e]; exact List.mem_cons_self)
          rw [hj] at ne
          exact absurd rfl ne
      rw [e0]
      exact .fz (r.anti fun a z => (wof_in a).mp z)
    · obtain ⟨u, q1, q2⟩ := E.slot j d (slotD_some hj)
      rw [hσ] at q1
      cases q1
      show Own G.B H (Wof (fIn (some (i, j)) F) (oIn (some (i, j)) F G.O)) (Γc i) v d (fIn (some (i, j)) F i)
      rw [fIn_at, hp (i, j) rfl]
      exact q2.anti fun a z => (wof_in a).mp z
  · unfold fIn
    cases p with
    | none => exact List.nodup_nil
    | some q =>
      simp only
      split
      · exact E.nd _
      · exact List.nodup_nil
  · obtain ⟨j1, e1, _⟩ := fIn_of h1
    obtain ⟨j2, e2, _⟩ := fIn_of h2
    rw [e1] at e2
    cases e2
    rfl
  · obtain ⟨j1, e1, h1⟩ := fIn_of h
    rcases q with q | ⟨k, hk, ne⟩
    · exact E.og j1 a h1 q
    · exact ne _ e1 (E.dj k j1 a hk h1)
  · obtain ⟨j1, e1, h1⟩ := fIn_of h
    exact E.hv j1 a h1
  · rcases h with h | ⟨k, hk, _⟩
    · exact E.oh a h
    · exact E.hv k a hk
  · have h' : pinAt (p.map Prod.fst) vs i = some v := h
    unfold pinAt at h'
    cases p with
    | none => cases h'
    | some q =>
      simp only [Option.map_some] at h'
      split at h'
      · rename_i e; subst e
        rw [List.getElem?_map, h']; rfl
      · cases h'
  · have h' : Γc i = .fz := h
    unfold fIn
    cases p with
    | none => rfl
    | some q =>
      obtain ⟨i', j⟩ := q
      simp only
      split
      · rename_i e; subst e
        have := hp (i, j) rfl
        rw [h'] at this
        exact E.ff j this.symm
      · rfl
def fOut (p : Option (Nat × Nat)) (F Fc : Nat → List Addr) : Nat → List Addr := match p with
  | none => F
  | some (i, j) => updF F j (Fc i)
theorem fOut_of {p : Option (Nat × Nat)} {Fc : Nat → List Addr} {k : Nat} {a : Addr} (h : a ∈ fOut p F Fc k) : (∃ i, p = some (i, k) ∧ a ∈ Fc i) ∨ ((∀ q, p = some q → k ≠ q.2) ∧ a ∈ F k) := by
  unfold fOut at h
  cases p with
  | none => exact .inr ⟨fun q e => (nomatch e), h⟩
  | some q =>
    obtain ⟨i, j⟩ := q
    simp only at h
    by_cases e : k = j
    · subst e; rw [updF_same] at h; exact .inl ⟨i, rfl, h⟩
    · rw [updF_ne e] at h; exact .inr ⟨fun q e' => by cases e'; exact e, h⟩
/-- behind the call -/
theorem call_out {p : Option (Nat × Nat)} {Γc : Nat → T} {vs : List V} {as : List Arg} {ds : List D} {n : Nat} {os : Env} {H' : Hp} {Fc : Nat → List Addr} {Fl : List Addr} (E : EnvOk G σ ρ H F) (oa : ArgsOk G σ H F vs as) (ha : argIn ρ p 0 as = some ds) (hn : ds.length = n) (hp : ∀ q, p = some q → Γc q.1 = G.Γ q.2 ∧ q.1 < n)
    (ev : Evo H (fIn p F) H' Fc Fl) (fo : FlOk (gF G.B Γc G.cl (p.map Prod.fst) (oIn p F G.O) vs) Fl) (Ec : EnvOk ((gF G.B Γc G.cl (p.map Prod.fst) (oIn p F G.O) vs).add Fl) (vs.map some) os H' Fc) :
    Evo H F H' (fOut p F Fc) Fl ∧ FlOk G Fl ∧ EnvOk (G.add Fl) σ (putOut p ρ os) H' (fOut p F Fc) ∧ ∀ a, Wof (fOut p F Fc) (G.add Fl).O a → Wof Fc ((gF G.B Γc G.cl (p.map Prod.fst) (oIn p F G.O) vs).add Fl).O a := by
  have hog : ∀ i a, a ∈ Fc i → ¬ (oIn p F G.O a ∨ a ∈ Fl) := fun i a h => Ec.og i a h
  have hoh : ∀ a, (oIn p F G.O a ∨ a ∈ Fl) → ∃ o, H' a = some o := fun a h => Ec.oh a h
  have hfo : ∀ a ∈ Fl, ¬ oIn p F G.O a := fo.2
  have new : ∀ a, (∃ i, a ∈ fIn p F i) → ∃ j, a ∈ F j := fun a ⟨i, hi⟩ => let ⟨j, _, h⟩ := fIn_of hi; ⟨j, h⟩
  have ev' : Evo H F H' (fOut p F Fc) Fl := ⟨fun a o e nn => ev.keep a o e fun i hi => let ⟨j, _, h⟩ := fIn_of hi; nn j h, fun a z => by
    rcases z with ⟨k, hk⟩ | z
    · rcases fOut_of hk with ⟨i, _, h⟩ | ⟨_, h⟩
      · exact (ev.new a (.inl ⟨i, h⟩)).imp (new a) id
      · exact .inl ⟨k, h⟩
    · exact (ev.new a (.inr z)).imp (new a) id⟩
  have hw : ∀ a, Wof (fOut p F Fc) (G.add Fl).O a → Wof Fc ((gF G.B Γc G.cl (p.map Prod.fst) (oIn p F G.O) vs).add Fl).O a := fun a z => by
    rcases z with ⟨k, hk⟩ | z | z
    · rcases fOut_of hk with ⟨i, _, h⟩ | ⟨ne, h⟩
      · exact .inl ⟨i, h⟩
      · exact .inr (.inl (.inr ⟨k, h, ne⟩))
    · exact .inr (.inl (.inl z))
    · exact .inr (.inr z)
  have hvs : ∀ i j, p = some (i, j) → ∃ v, vs[i]? = some v ∧ σ[j]? = some (some v) := fun i j e => by
    obtain ⟨hl, hat⟩ := argIn_at oa ha
    have hi : i < ds.length := by rw [hn]; exact (hp _ e).2
    obtain ⟨v, h1, h2⟩ := hat i ds[i] (List.getElem?_eq_getElem hi)
    rw [Nat.zero_add] at h2
    rcases h2 with ⟨ne, _⟩ | ⟨j', e', _, hσ⟩
    · rw [e] at ne; exact absurd rfl ne
    · rw [e] at e'; cases e'; exact ⟨v, h1, hσ⟩
  refine ⟨ev', ⟨fo.1, fun a h q => hfo a h (.inl q)⟩, ⟨?_, fun k d h => ?_, fun k => ?_, fun k l a h1 h2 => ?_, fun k a h q => ?_, fun k a h => ?_, fun a h => ?_, E.pn, fun k h => ?_⟩, hw⟩
  · unfold putOut
    cases p with
    | none => exact E.len
    | some q => simpa using E.len
  · have other : (∀ q, p = some q → k ≠ q.2) → ρ[k]? = some (some d) → ∃ v, σ[k]? = some (some v) ∧ Own G.B H' (Wof (fOut p F Fc) (G.add Fl).O) (G.Γ k) v d (F k) := fun ne h => by
      obtain ⟨v, h1, h2⟩ := E.slot k d h
      refine ⟨v, h1, Own.keep (fun a z => ?_) d (fun a o e z => ?_) h2⟩
      · rcases z with ⟨l, hl⟩ | z | z
        · exact (ev'.new a (.inl ⟨l, hl⟩)).imp .inl id
        · exact .inl (.inr z)
        · exact (ev'.new a (.inr z)).imp .inl id
      · refine ev.keep a o e fun i hi => ?_
        obtain ⟨j, hj, h⟩ := fIn_of hi
        rcases z with z | z
        · exact ne _ hj (E.dj k j a z h)
        · exact z (.inl ⟨j, h⟩)
    unfold putOut at h
    cases p with
    | none => exact other (fun q e => nomatch e) h
    | some q =>
      obtain ⟨i, j⟩ := q
      simp only at h
      by_cases e : k = j
      · subst e
        have hd : slotD os i = some d := by
          by_cases hl : k < ρ.length
          · rw [List.getElem?_set_self hl] at h
            exact Option.some.inj h
          · rw [List.getElem?_eq_none (by simpa using hl)] at h
            cases h
        obtain ⟨v, hv, hσ⟩ := hvs i k rfl
        obtain ⟨u, h1, h2⟩ := Ec.slot i d (slotD_some hd)
        rw [List.getElem?_map, hv] at h1
        cases h1
        refine ⟨v, hσ, ?_⟩
        have hΓ : Γc i = G.Γ k := (hp (i, k) rfl).1
        have h2' : Own G.B H' (Wof Fc ((gF G.B Γc G.cl (some i) (oIn (some (i, k)) F G.O) vs).add Fl).O) (Γc i) v d (Fc i) := h2
        rw [hΓ] at h2'
        show Own G.B H' (Wof (fOut (some (i, k)) F Fc) (G.add Fl).O) (G.Γ k) v d (updF F k (Fc i) k)
        rw [updF_same]
        exact h2'.anti hw
      · rw [List.getElem?_set_ne (Ne.symm e)] at h
        have := other (fun q e' => by cases e'; exact e) h
        show ∃ v, σ[k]? = some (some v) ∧ Own G.B H' (Wof (fOut (some (i, j)) F Fc) (G.add Fl).O) (G.Γ k) v d (updF F j (Fc i) k)
        rw [updF_ne e]
        exact this
  · cases e : p with
    | none => exact E.nd k
    | some q =>
      obtain ⟨i, j⟩ := q
      show (updF F j (Fc i) k).Nodup
      by_cases e : k = j
      · subst e; rw [updF_same]; exact Ec.nd i
      · rw [updF_ne e]; exact E.nd k
  · rcases fOut_of h1 with ⟨i, e1, q1⟩ | ⟨n1, q1⟩
    · rcases fOut_of h2 with ⟨i2, e2, q2⟩ | ⟨n2, q2⟩
      · rw [e1] at e2; cases e2; rfl
      · exact absurd (Or.inl (Or.inr ⟨l, q2, n2⟩)) (hog i a q1)
    · rcases fOut_of h2 with ⟨i2, e2, q2⟩ | ⟨n2, q2⟩
      · exact absurd (Or.inl (Or.inr ⟨k, q1, n1⟩)) (hog i2 a q2)
      · exact E.dj k l a q1 q2
  · rcases fOut_of h with ⟨i, e1, q1⟩ | ⟨n1, q1⟩
    · rcases q with q | q
      · exact hog i a q1 (.inl (.inl q))
      · exact hog i a q1 (.inr q)
    · rcases q with q | q
      · exact E.og k a q1 q
      · exact hfo a q (.inr ⟨k, q1, n1⟩)
  · rcases fOut_of h with ⟨i, e1, q1⟩ | ⟨n1, q1⟩
    · exact Ec.hv i a q1
    · exact hoh a (.inl (.inr ⟨k, q1, n1⟩))
  · rcases h with h | h
    · exact hoh a (.inl (.inl h))
    · exact hoh a (.inr h)
  · have h' : G.Γ k = .fz := h
    cases e : p with
    | none => exact E.ff k h'
    | some q =>
      obtain ⟨i, j⟩ := q
      show updF F j (Fc i) k = []
      by_cases e2 : k = j
      · subst e2
        rw [updF_same]
        exact Ec.ff i ((hp (i, k) e).1.trans h')
      · rw [updF_ne e2]; exact E.ff k h'
end
section
variable {X : Cx} {G : Sg} {W : WX} {e : Expr} {es : List Expr} {fs : Env → Res (List Arg)} {x : Str} {pos pp : Pos} {f : Addr} {fd : FuncData} {ps : List Str} {lev : Nat} {Γc : Nat → T} {p : Option (Nat × Nat)} {n : Nat} {tr : T} {m : List D → Res D}
theorem call_end {σ : L2.St} {H : Hp} {F : Nat → List Addr} {ρ : Env} {vs : List V} {as : List Arg} {Q : VK} (hΓ : fzAll Γc (p.map Prod.fst) n = true) (hp : ∀ q, p = some q → Γc q.1 = G.Γ q.2) (E : EnvOk G σ ρ H F) (os : ArgsOk G σ H F vs as)
    (g : Go G W σ (callM n p m as ρ) H F fun d _ H' F' Fl => ∀ v, Own G.B H' (Wof F' (G.add Fl).O) tr v d Fl → Q v H') : spF G.B Γc G.cl (p.map Prod.fst) n tr m vs H Q (WE W σ) := by
  unfold callM at g
  cases ha : argIn ρ p 0 as with
  | none => simp only [ha] at g; exact g.elim
  | some ds =>
    simp only [ha] at g
    by_cases hc : ds.length = n ∧ ∀ q, p = some q → q.1 < n
    · rw [if_pos hc] at g
      obtain ⟨hn, hlt⟩ := hc
      obtain ⟨hvl, Ec⟩ := call_in E os ha hn hΓ hp
      refine ⟨hvl, oIn p F G.O, fIn p F, ds, Ec, fun i hi => ?_, ?_⟩
      · cases e : fIn p F i with
        | nil => rfl
        | cons a t =>
          obtain ⟨j, hj, _⟩ := fIn_of (p := p) (F := F) (i := i) (a := a) (by rw [e]; exact List.mem_cons_self)
          rw [hj] at hi
          exact absurd rfl hi
      · cases q : m ds with
        | err => simp only [q] at g; exact g.elim
        | exc c os' =>
          simp only [q] at g
          intro H' F' ev E'
          obtain ⟨ev', _, E2, _⟩ := call_out (Fl := []) E os ha hn (fun q e => ⟨hp q e, hlt q e⟩) ev FlOk.nil (by rw [Sg.add_nil]; exact E')
          rw [Sg.add_nil] at E2
          exact g H' _ ev' E2
        | ok d os' =>
          simp only [q] at g
          intro H' F' Fl ev fo E' _ v o
          obtain ⟨ev', fo', E2, hw⟩ := call_out E os ha hn (fun q e => ⟨hp q e, hlt q e⟩) ev fo E'
          exact g H' _ Fl ev' fo' E2 v (o.anti hw)
    · rw [if_neg hc] at g; exact g.elim
theorem dx_call (tk : Takes X W) (Fk : FnOk X.prog X.w X.K X.mg X.base (L2.CX X.prog X.w) lev f fd ps (spF G.B Γc G.cl (p.map Prod.fst) n tr m)) (hr : Room lev X.A) (hg : Gl X x) (hm : X.mg x = some (.ref f)) (hk : PySem.W.keepIn X.K (.ref f) = true) (hb : Binds X.K fd ps [])
    (hΓ : fzAll Γc (p.map Prod.fst) n = true) (hp : ∀ q, p = some q → Γc q.1 = G.Γ q.2) (ha : DA X G W (e :: es) fs) (hdb : (x == ("__debug__" : Str)) = false := by decide) (he : starEach (e :: es) X.env = (false, eval e X.env) :: starEach es X.env := by rfl) (hpl : (backTo pos (starEach es X.env)).any (·.1) = false := by rfl) :
    DX X G W tr (.Call (.Name x pp) (e :: es) [] pos) (eCall n p m fs) :=
  PE.imp (pe_callS (E := WE W) Fk hr hg hm hk hb (fun σ => passAt tk σ) ha hdb he hpl) fun σ H Q ⟨F, ρ, E, g⟩ => tAs_bind E g fun vs as ρ1 H1 F1 E1 os g1 _ => call_end hΓ hp E1 os g1
end
end PD

set_option Elab.async false
set_option linter.all false
set_option maxRecDepth 100000
set_option maxHeartbeats 4000000
/-! PDl: try, what the law asks of a caught error. -/
namespace PD
open PySem PySem.Spec PyProof.Rows L2 RZ

/-! ### try .. except C as n -/
def sClr (i : Nat) (m : SR) : SR := match m with
  | .nx ρ => .nx (ρ.set i none)
  | .brk ρ => .brk (ρ.set i none)
  | .ct ρ => .ct (ρ.set i none)
  | .ret d ρ => .ret d ρ
  | .exc _ _ => .err
  | .err => .err
def sTry (i : Nat) (ok : Nat → Bool) (m : Env → SR) (h : Nat → Env → SR) : Env → SR := fun ρ => match m ρ with
  | .exc c ρ1 => if ok c = true then (if i < ρ1.length then sClr i (h c (ρ1.set i none)) else .err) else .exc c ρ1
  | r => r
theorem EnvOk.blind {G : Sg} {σ : L2.St} {ρ : Env} {H : Hp} {F : Nat → List Addr} {i : Nat} {v : Option V} (E : EnvOk G σ ρ H F) (hp : G.pin i = none) : EnvOk G (σ.set i v) (ρ.set i none) H F where
  len := by simpa using E.len
  slot := fun j d e => by
    rcases get_set_some e with ⟨_, e1, _⟩ | ⟨ne, e⟩
    · cases e1
    · obtain ⟨u, h1, h2⟩ := E.slot j d e
      exact ⟨u, by rw [List.getElem?_set_ne (Ne.symm ne)]; exact h1, h2⟩
  nd := E.nd
  dj := E.dj
  og := E.og
  hv := E.hv
  oh := E.oh
  pn := fun j u h => by
    by_cases e : j = i
    · subst e; rw [hp] at h; cases h
    · rw [List.getElem?_set_ne (Ne.symm e)]; exact E.pn j u h
  ff := E.ff
theorem EnvOk.blindL {G : Sg} {σ : L2.St} {ρ : Env} {H : Hp} {F : Nat → List Addr} {i : Nat} (E : EnvOk G σ ρ H F) (hp : G.pin i = none) : EnvOk G (σ.set i none) (ρ.set i none) H F := E.blind hp
/-- the suite: the caught error stands in slot i -/
def tSu (G : Sg) (W : WX) (tr : T) (i : Nat) (h : Nat → Env → SR) (a : Addr) (cls : Value) (d : Option Addr) : TS := fun Dn σ H => ∃ cn F ρ, cls = G.cl cn ∧ d = none ∧ EnvOk G σ ρ H F ∧ σ[i]? = some (some (.ref a)) ∧ H a = none ∧ GoS G W tr (h cn ρ) H F Dn
section
variable {X : Cx} {G : Sg} {W : WX} {tr : T} {body suite : List Stmt} {b₀ : Stmt} {x n : Str} {C : Value} {i : Nat} {np pos pos' : Pos} {m : Env → SR} {ok : Nat → Bool} {h : Nat → Env → SR}
theorem ds_try (hs : X.stack = X.env :: X.outer) (hf : X.env.frame = some X.env.locals) (hN : X.N.Nodup) (hi : X.N[i]? = some n) (hln : X.env.kindOf n = some .local) (hc : Names X x C) (tk : Takes X W) (hpi : G.pin i = none)
    (hx : ∀ c, PySem.W.exmOne X.K (G.cl c) C = some (ok c))
    (hb : ∀ (W : WX) (pn : List (Addr × Obj)) (xe : Value → Shared → Prop), Takes (X.tr pn xe) W → PassesOwn (model X.prog X.w) X.A X.env xe → DSs (X.tr pn xe) G W tr body m)
    (hsu : ∀ (a : Addr) (oe : Obj) (cls : Value) (d : Option Addr) (pn : List (Addr × Obj)), Zc cls d oe → (∃ vs, oe.data = .fields vs) → PSs (X.suite a ((a, oe) :: pn)) (b₀ :: suite) (tSu G W0 tr i h a cls d)) :
    DS X G W tr (.Try body [.ExceptHandler (some (.Name x np)) (some n) (b₀ :: suite) pos'] [] [] pos) (sTry i ok m h) :=
  PS.imp (ps_try_as hs hf hN hi hln hc tk hb hsu) fun Dn σ H ⟨F, ρ, E, g⟩ => by
    refine ⟨F, ρ, E, ?_⟩
    unfold sTry at g
    cases q : m ρ with
    | nx ρ' => rw [q] at g; exact g
    | ret d ρ' => rw [q] at g; exact g
    | brk ρ' => rw [q] at g; exact g
    | ct ρ' => rw [q] at g; exact g
    | err => rw [q] at g; exact g
    | exc c ρ1 =>
      simp only [q] at g
      intro σ' H' F' ev E'
      refine ⟨ok c, hx c, fun hok a ha => ?_, fun hok => ?_⟩
      · rw [if_pos hok] at g
        have hil : i < ρ1.length := Classical.byContradiction fun z => by
          rw [if_neg z] at g
          exact g
        rw [if_pos hil] at g
        have E2 := E'.blind (i := i) (v := some (.ref a)) hpi
        refine ⟨c, F', _, rfl, rfl, E2, List.getElem?_set_self (by rw [E'.len]; exact hil), ha, ?_⟩
        have g2 := GoS.after (Dn := Dn) g ev
        cases qh : h c (ρ1.set i none) with
        | nx ρ2 => rw [qh] at g2; exact fun σ3 H3 F3 v3 E3 => g2 _ H3 F3 v3 (E3.blindL hpi)
        | brk ρ2 => rw [qh] at g2; exact fun σ3 H3 F3 v3 E3 => g2 _ H3 F3 v3 (E3.blindL hpi)
        | ct ρ2 => rw [qh] at g2; exact fun σ3 H3 F3 v3 E3 => g2 _ H3 F3 v3 (E3.blindL hpi)
        | ret d ρ2 => rw [qh] at g2; exact g2
        | exc c2 ρ2 => rw [qh] at g2; exact g2.elim
        | err => rw [qh] at g2; exact g2.elim
      · rw [if_neg (by rw [hok]; exact Bool.false_ne_true)] at g
        exact g σ' H' F' ev E'
end

/-! ### a def that is handed the error that the suite holds -/
structure FnW (P : Program) (w : World) (K : PySem.W.Frag) (mg : Str → Option Value) (base : Heap) (k : Nat) (f : Addr) (fd : FuncData) (ps : List Str) (sp : Addr × Obj → Sp) : Prop where
  len : ∀ q vs H Q E, sp q vs H Q E → vs.length = ps.length
  run : ∀ (A : Around) (outer : List PySem.Env) (s : Shared) (H : Hp) (args : Args) (us : List Value) (vs : List V) (Q : VK) (E : XK) (q : Addr × Obj), L2H.RoomH k A → L2H.PinOk outer H s q → Env0 P w K mg base A outer s H → BindsTo s fd args (ps.zip us) → Vals vs us → sp q vs H Q E →
    codeAny (model P w) A (.call (.ref f) args) (CR (L2.CX P w) outer P w H s Q E) s
theorem fn_ofW {P : Program} {w : World} {K : PySem.W.Frag} {mg : Str → Option Value} {base : Heap} {k : Nat} {x qual : Str} {st : Stmt} {f : Addr} {fd : FuncData} {N ps : List Str} {sp : Addr × Obj → Sp} (Fn : Fun K x qual st f fd) (S : FnScope N ps (defScope st))
    (len : ∀ q vs H Q E, sp q vs H Q E → vs.length = ps.length)
    (hbody : ∀ (cdv : Value) (A : Around) (outer : List PySem.Env) (s : Shared) (H : Hp) (vs : List V) (Q : VK) (E : XK) (q : Addr × Obj), L2H.RoomH k (A.deeper (envOfC qual (defScope st) s.heap.objs.size f cdv)) → sp q vs H Q E →
      ∃ t, PSs (L2H.cxH (L2.CX P w) P w K mg base N qual (defScope st) f cdv A outer s H E q) (defBody st) t ∧ t { nx := fun _ H' => Q .non H', rt := Q } (L2.start N vs) H) :
    FnW P w K mg base (k + 1) f fd ps sp := by
  obtain ⟨oc, od, kV, doc, pm, an, cdv, ct, osl, rfl, lk, hcd⟩ := Fn.ex
  refine ⟨len, ?_⟩
  intro A outer s H args us vs Q E q room hpin en bind vals hsp
  have hl := len _ _ _ _ _ hsp
  have hK : K.In s.heap := en.mod.kin.keeps (fun b o e => And.left (en.bs b o e))
  have hLim : s.heap.NoLimit := en.mod.nolimit.keeps (fun b o e => And.left (en.bs b o e))
  have kinds : ∀ y ∈ ps.zip us, (defScope st).names.lookup y.1 = some .local ∨ ((defScope st).names.lookup y.1 = some .cell ∧ ((cellsFrom (s.heap.objs.size + 1) (defScope st).names []).lookup y.1).isSome = true) := by
    rintro ⟨z, v⟩ hz
    exact (S.par z (List.of_mem_zip hz).1).imp id fun c => ⟨c, PySem.W.cellsFrom_some _ _ _ (.inl c)⟩
  refine codeAny_call_function room.depth (hK _ _ lk) rfl S.co S.gen rfl (PySem.W.codeRec_of hK hcd) (bind _ _ _ _ ?_)
  refine wpAny_newFunctionEnv_cells S.kind kinds (fun env0 he0 s1 inC => ?_)
  cases he0
  refine ⟨hLim.keeps inC.toInCall.keep, codeAny_func ?_⟩
  obtain ⟨t, ht, hq⟩ := hbody cdv A outer s H vs Q E q (room.deeper _) hsp
  have J := L2H.inv_startH (CX := L2.CX P w) (qual := qual) (cd := cdv) (f := f) (E := E) S hpin en hl vals inC
  refine wpAny_mono (ht.run [] s1 (L2.start N vs) H _ J hq) (fun fl s' hs => ?_) (fun e s' hs => hs)
  cases fl with
  | ret u =>
    obtain ⟨v, σ', H', J', rv, qv⟩ := hs
    exact ⟨v, H', J'.os, J'.bare, J'.base, J'.hok, rv, qv⟩
  | next =>
    obtain ⟨σ', H', J', qv⟩ := hs
    exact ⟨V.non, H', J'.os, J'.bare, J'.base, J'.hok, rfl, qv⟩
  | brk =>
    obtain ⟨_, _, _, z⟩ := hs
    cases z
  | cont =>
    obtain ⟨_, _, _, z⟩ := hs
    cases z
theorem pe_callW {X : Cx} {k : Nat} {f a : Addr} {oe : Obj} {pn : List (Addr × Obj)} {fd : FuncData} {ps : List Str} {sp : Addr × Obj → Sp} {x : Str} {p pos : Pos} {e : Expr} {es : List Expr} {t : TA} (Fk : FnW X.prog X.w X.K X.mg X.base k f fd ps sp) (hr : L2H.RoomH k (X.suite a ((a, oe) :: pn)).A)
    (hg : Gl X x) (hm : X.mg x = some (.ref f)) (hk : PySem.W.keepIn X.K (.ref f) = true) (hb : Binds X.K fd ps []) (ha : PA (X.suite a ((a, oe) :: pn)) (e :: es) t) (hdb : (x == ("__debug__" : Str)) = false := by decide)
    (he : starEach (e :: es) X.env = (false, eval e X.env) :: starEach es X.env := by rfl) (hpl : (backTo pos (starEach es X.env)).any (·.1) = false := by rfl) :
    PE (X.suite a ((a, oe) :: pn)) (.Call (.Name x p) (e :: es) [] pos) (fun σ H Q => t σ H fun vs H1 => sp (a, oe) vs H1 Q fun _ _ _ => False) := by
  refine ⟨fun pins s σ H Q I h => ?_⟩
  refine wpAny_Call_Name_kw (ld_glob (X := X.suite a ((a, oe) :: pn)) I hg hm ?_ hdb)
  refine PySem.W.callWith_K (h₀ := X.base) I.ok.mod.kin hk (thn (ha.run pos pins s σ H _ I h) fun us s1 ⟨vs, H1, I1, rv, hsp⟩ => ⟨I1.kIn, ?_⟩) he hpl
  have hl : us.length = ps.length := by rw [← rv.length]; exact Fk.len _ _ _ _ _ hsp
  have bind := hb s1 us I1.kIn (by rw [List.append_nil]; exact hl)
  rw [List.append_nil] at bind
  have P1 := I1.pin (a, oe) (List.mem_append_left _ List.mem_cons_self)
  have hpin : L2H.PinOk X.stack H1 s1 (a, oe) := ⟨P1.1, P1.2.1, fun hmem => (List.mem_cons.mp (I1.stkSub a hmem)).elim P1.2.2.1 P1.2.2.2.1, P1.2.2.2.2⟩
  refine wpAny_call (codeAny_mono (Fk.run _ X.stack s1 H1 ⟨us, []⟩ us vs Q _ (a, oe) hr hpin I1.env0 bind rv hsp) fun r s' hq => ?_)
  cases r with
  | error e =>
    obtain ⟨_, _, _, _, _, _, _, _, _, _, _, _, z⟩ := hq
    exact z.elim
  | ok fl =>
    cases fl with
    | ret u => exact I1.after hq
    | next => cases hq
    | brk => cases hq
    | cont => cases hq
/-- isinstance of the caught error -/
theorem call_isEx {X : Cx} {a D : Addr} {oe : Obj} (C : ExcC X.K D) (hz : Zc (.ref D) none oe) (hf : ∃ vs, oe.data = .fields vs) (hpn : (a, oe) ∈ X.pn) : CallR X (.builtin "isinstance") (rIsE X.K D a) := by
  intro pins s σ H xs us Q I r h
  obtain ⟨c, cv, b, rfl, hcv, hkit, q⟩ := h
  obtain ⟨u1, u2, rfl, r1, r2⟩ := vals2 r
  cases (show u1 = Value.ref a from r1)
  cases hcv _ r2
  have hget := (I.pin (a, oe) (List.mem_append_left _ hpn)).1
  obtain ⟨vs, hv⟩ := hf
  have J : PySem.W.InstAt s.heap a oe D none := by
    cases oe
    obtain ⟨h1, h2⟩ := hz
    dsimp only at h1 h2 hv
    subst h1 h2 hv
    exact ⟨hget, rfl, rfl, trivial⟩
  exact PySem.W.kia_one (PySem.W.handS_kitx_exc C.hg C.hk C.hs C.hd C.ha C.hn C.ht C.hm) I.kIn J hkit (fun z => nomatch z) fun tk => ⟨.bl b, H, I.kept (t' := tk) fun _ _ z => z, rfl, q⟩
end PD

set_option Elab.async false
set_option linter.all false
set_option maxRecDepth 100000
set_option maxHeartbeats 4000000
/-! PDm: more operations; promises by name; calls of a list's defs; isinstance of the caught error. -/
namespace PD
open PySem PySem.Spec PyProof.Rows L2 RZ

/-! ### list * int, the list only read -/
def rRepD (K : PySem.W.Frag) : R2 := fun x y H Q => ∃ l k xs, ∃ B : Bs, B.2.2 = K ∧ x = .ref l ∧ y = .int k ∧ Rm B H l xs ∧ -(2 ^ 63) ≤ k ∧ k < 2 ^ 63 ∧ xs.length * k.toNat ≤ sizeLine ∧ ∀ p, H p = none → Q (.ref p) (upd H p (.lst (List.replicate k.toNat xs).flatten))
theorem op_repD {X : Cx} : OpR X (binaryOp .Mult) (rRepD X.K) := by
  intro pins s σ H x y v u Q I rx ry h
  obtain ⟨l, k, xs, B, eB, rfl, rfl, hR, h1, h2, hz, q⟩ := h
  cases rx
  obtain ⟨t, rfl⟩ := ry
  obtain ⟨_, its, n, rv, hl, e⟩ := lstR I eB hR
  have hsz : its.toArray.size * k.toNat ≤ sizeLine := by simpa [← hl] using hz
  have hc1 : ¬ its.toArray.size * k.toNat > (2 ^ 63 - 1) / 8 := by
    have z : (sizeLine : Nat) ≤ (2 ^ 63 - 1) / 8 := by decide
    omega
  have hc2 : ¬ (!Builtin.List.listFitsIndex k) = true := by simp [fitsIndex_both h1 h2]
  have hc3 : ¬ Builtin.List.listTooLong (its.toArray.size * k.toNat) = true := by rw [notLongL hsz]; exact Bool.false_ne_true
  have hf : List.foldl (fun a b => a ++ b) #[] (List.replicate (if its.toArray.isEmpty = true then 0 else k.toNat) its.toArray) = (List.replicate k.toNat its).flatten.toArray := by
    cases its with
    | nil => simp
    | cons a r => rw [if_neg (by simp)]; exact (foldl_rep (a :: r) k.toNat []).trans (by simp)
  refine wpAny_binaryOp_repeat_ref (T := "list") (U := "int") (by decide) ⟨_, e, rfl⟩ (fun s2 => typeIs_int s2 k t) noFill_list_mul F.fills_int_mul F.slot_int_rmul repeat_list F.slot_int_index.lookup ?_
  refine call_meets F.slot_int_rmul (typeIs_int s k t) F.entry_int_rmul (F.args_int_rmul_2 _ _) (int___rmul___int_list k t l its.toArray n) ⟨e, rfl, ⟨_, e, rfl⟩, ?_⟩
  refine call_meets F.slot_list_mul ⟨_, e, rfl⟩ F.entry_list_mul (F.args_list_mul_2 _ _) (AutoListH.list___mul___list_int_3 l its.toArray n k t hc2 hc1 hc3) ⟨e, ?_⟩
  rw [hf]
  refine ⟨.ref _, _, I.lnew (t' := s.toks) (rv.rep k.toNat) ?_, rfl, q _ I.fresh⟩
  rw [PyProof.Rows.lm_len_rep_flat, Nat.mul_comm]
  exact hz
def rMulA (K : PySem.W.Frag) : R2 := fun x y H Q => rI CMul (fun i j => .int (i * j)) x y H Q ∨ rI CMulW (fun i j => .int (i * j)) x y H Q ∨ rRepD K x y H Q ∨ rRepT K x y H Q
theorem op_mulA {X : Cx} : OpR X (binaryOp .Mult) (rMulA X.K) := op_mul.or (op_mulW.or (op_repD.or op_repT))
theorem len_rep {α : Type} (a : List α) (k : Nat) : (List.replicate k a).flatten.length = k * a.length := by simp
theorem pv_mul {B : Bs} : PV2 B (rMulA B.2.2) .fz mulD := by
  intro x y d e H W Q z hx hy hz hW k
  unfold mulD at hz
  split at hz
  · split at hz
    · rename_i i j hc
      cases hz
      rw [Bool.or_eq_true, Bool.or_eq_true] at hc
      unfold smallI wideI at hc
      simp only [Bool.and_eq_true, decide_eq_true_eq] at hc
      rcases hc with hc | hc
      · exact .inl ⟨i, j, rq_int hx, rq_int hy, hc, k.int⟩
      · exact .inr (.inl ⟨i, j, rq_int hx, rq_int hy, hc, k.int⟩)
    · cases hz
  · split at hz
    · rename_i a j hc
      cases hz
      unfold mulD.smallK at hc
      simp only [Bool.and_eq_true, decide_eq_true_eq] at hc
      obtain ⟨p, xs, rfl, ra, la, qa⟩ := rq_list hx
      have hl : (List.replicate j.toNat a).flatten.length ≤ lim := by rw [len_rep, Nat.mul_comm]; exact hc.2
      exact .inr (.inr (.inl ⟨p, j, xs, B, rfl, rfl, rq_int hy, ra, by omega, by omega, by rw [qa.length]; exact lim_size hc.2, fun p hp => k.lstF hp (qa.rep _) hl hW⟩))
    · cases hz
  · split at hz
    · rename_i a j hc
      cases hz
      simp only [Bool.and_eq_true, decide_eq_true_eq] at hc
      obtain ⟨p, xs, rfl, ra, na, la, qa⟩ := rq_tup hx
      have hl : (List.replicate j.toNat a).flatten.length ≤ lim := by
        rw [len_rep]
        have : j.toNat * a.length ≤ 1000 * 1000 := Nat.mul_le_mul (by omega) hc.2
        exact this
      refine .inr (.inr (.inr ⟨p, j, xs, rfl, rq_int hy, .inl ra, fun z => ?_, by omega, by omega, by rw [qa.length]; omega, fun p hp => k.tup hp (qa.rep _) hl hW⟩))
      subst z
      exact hc.1.1.1 (List.length_eq_zero_iff.mp (by simpa using qa.length.symm))
    · cases hz
  · cases hz

/-! ### extend, count, index -/
def rExtR (K : PySem.W.Frag) : V → List V → Hp → VK → Prop := fun x vs H Q => ∃ l b xs zs, ∃ B : Bs, B.2.2 = K ∧ x = .ref l ∧ vs = [.ref b] ∧ H l = some (.lst xs) ∧ Rm B H b zs ∧ xs.length + zs.length ≤ sizeLine ∧ Q .non (upd H l (.lst (xs ++ zs)))
theorem mt_extR {X : Cx} : MtR X "list.extend" (rExtR X.K) := by
  intro pins s σ H x vs v us Q I rx rv h
  obtain ⟨l, b, xs, zs, B, eB, rfl, rfl, hH, hB, hz, q⟩ := h
  cases rx
  obtain ⟨u, rfl, ru⟩ := rv.one
  cases ru
  obtain ⟨_, its, n, r1, l1, e1⟩ := I.lstM hH
  obtain ⟨_, jts, m, r2, l2, e2⟩ := lstR I eB hB
  have hs : its.toArray.size + jts.toArray.size ≤ sizeLine := by simpa [← l1, ← l2] using hz
  refine call_meets F.slot_list_extend ⟨_, e1, rfl⟩ F.entry_list_extend (F.args_list_extend_2 _ _) (AutoSeq1.list_extend_list_list_0 l its.toArray n b jts.toArray m (by rw [notLongL hs, Bool.and_false]; exact Bool.false_ne_true) (by simp at hs ⊢; omega) (by omega)) ⟨e1, e2, ?_⟩
  refine ⟨.non, _, I.lset (its' := its ++ jts) hH e1 (by simp) (r1.append r2) ?_, rfl, q⟩
  simpa using hz
theorem pv_ext {B : Bs} : PVmu B (rExtR B.2.2) extD := by
  intro l xs ds ys es H W Q z ds' hH hl ra rb hg k
  match es, rb, hg with
  | [], _, hg => simp [extD] at hg
  | [.list bs], rb, hg =>
    cases rb with
    | cons r rn =>
      cases rn
      simp only [extD] at hg
      split at hg
      · rename_i hlt
        cases hg
        cases r with
        | lst rd lb qb => exact ⟨l, _, xs, _, B, rfl, rfl, rfl, hH, rd.rm, by rw [ra.length, qb.length]; exact lim_size hlt, k .non _ .non (ra.append qb)⟩
      · cases hg
  | [.none], _, hg => simp [extD] at hg
  | [.bool _], _, hg => simp [extD] at hg
  | [.int _], _, hg => simp [extD] at hg
  | [.str _], _, hg => simp [extD] at hg
  | [.tuple _], _, hg => simp [extD] at hg
  | [.dict _], _, hg => simp [extD] at hg
  | _ :: _ :: _, _, hg => simp [extD] at hg
def flatD : D → Bool
  | .none => true
  | .bool _ => true
  | .int _ => true
  | .str _ => true
  | _ => false
theorem flat_rq {B : Bs} {H : Hp} {W : Wr} {v : V} {d : D} (h : Rq B H W v d) (f : flatD d = true) : flatV v = true := by
  cases d with
  | none => rw [rq_none h]; rfl
  | bool b => rw [rq_bool h]; rfl
  | int b => rw [rq_int h]; rfl
  | str b => rw [(rq_str h).1]; rfl
  | _ => cases f
def eqF : D → D → Bool
  | .none, .none => true
  | .bool a, .bool b => a == b
  | .bool a, .int b => (if a then 1 else 0) == b
  | .int a, .bool b => a == (if b then 1 else 0)
  | .int a, .int b => a == b
  | .str a, .str b => a == b
  | _, _ => false
theorem eqF_V {B : Bs} {H : Hp} {W : Wr} {v u : V} {d e : D} (h : Rq B H W v d) (h' : Rq B H W u e) (f : flatD d = true) (f' : flatD e = true) : eqV v u = eqF d e := by
  cases d with
  | none => rw [rq_none h]; cases e with
    | none => rw [rq_none h']; rfl
    | bool b => rw [rq_bool h']; rfl
    | int b => rw [rq_int h']; rfl
    | str b => rw [(rq_str h').1]; rfl
    | _ => cases f'
  | bool b => rw [rq_bool h]; cases e with
    | none => rw [rq_none h']; rfl
    | bool b => rw [rq_bool h']; rfl
    | int b => rw [rq_int h']; rfl
    | str b => rw [(rq_str h').1]; rfl
    | _ => cases f'
  | int b => rw [rq_int h]; cases e with
    | none => rw [rq_none h']; rfl
    | bool b => rw [rq_bool h']; rfl
    | int b => rw [rq_int h']; rfl
    | str b => rw [(rq_str h').1]; rfl
    | _ => cases f'
  | str b => rw [(rq_str h).1]; cases e with
    | none => rw [rq_none h']; rfl
    | bool b => rw [rq_bool h']; rfl
    | int b => rw [rq_int h']; rfl
    | str b => rw [(rq_str h').1]; rfl
    | _ => cases f'
  | _ => cases f
def rCntF (K : PySem.W.Frag) : V → List V → Hp → VK → Prop := fun x xs H Q => ∃ (p : Addr) (ys : List V) (y : V), x = .ref p ∧ xs = [y] ∧ SqL K H p ys ∧ flatV y = true ∧ ys.all flatV = true ∧ Q (.int (ys.countP fun z => eqV z y : Nat)) H
theorem cnt_eqU {x : V} : ∀ {xs : List V} {us : List Value}, Vals xs us → xs.all flatV = true → us.countP (eqU x) = xs.countP fun y => eqV y x
  | _, _, .nil, _ => rfl
  | y :: xs, u :: us, .cons r t, f => by
    rw [List.all_cons, Bool.and_eq_true] at f
    rw [List.countP_cons, List.countP_cons, eqU_of r f.1, cnt_eqU t f.2]
theorem mt_cntF {X : Cx} : MtR X "list.count" (rCntF X.K) := by
  intro pins s σ H x xs v us Q I rx rxs h
  obtain ⟨p, ys, y, rfl, rfl, hs, fy, fys, q⟩ := h
  cases rx
  obtain ⟨u, rfl, ru⟩ := rxs.one
  obtain ⟨its, rv, ⟨ob, n, ho, hc, hdn, hd⟩, hlen⟩ := I.list hs
  cases ob
  simp only at hc hd
  subst hc hd
  refine call_meets F.slot_list_count ⟨_, ho, rfl⟩ F.entry_list_count (F.args_list_count_2 _ _) (SeqAt.list_countAt p its.toArray n _ _ u (eqU y)) ⟨ho, fun w hw => mem_eqAt ru fy rv fys w (by simpa using hw), ?_⟩
  have ec : its.toArray.toList.countP (eqU y) = ys.countP fun z => eqV z y := cnt_eqU rv fys
  rw [ec]
  exact ⟨.int _, H, I.tok _, ⟨_, rfl⟩, q⟩
def cntD : D → List D → Option D
  | .list ds, [e] => if (ds.all flatD && flatD e) = true then some (.int (ds.countP fun z => eqF z e : Nat)) else none
  | _, _ => none
theorem flat_all {B : Bs} {H : Hp} {W : Wr} : ∀ {ds : List D} {vs : List V}, RpAll B H W vs ds → ds.all flatD = true → vs.all flatV = true
  | [], _, h, _ => by cases h; rfl
  | d :: ds, _, h, f => by
    rw [List.all_cons, Bool.and_eq_true] at f
    cases h with
    | cons a b => rw [List.all_cons, flat_rq (.inl a) f.1, flat_all b f.2]; rfl
theorem cnt_V {B : Bs} {H : Hp} {W : Wr} {u : V} {e : D} (h' : Rq B H W u e) (f' : flatD e = true) : ∀ {ds : List D} {vs : List V}, RpAll B H W vs ds → ds.all flatD = true → (vs.countP fun z => eqV z u) = ds.countP fun z => eqF z e
  | [], _, h, _ => by cases h; rfl
  | d :: ds, _, h, f => by
    rw [List.all_cons, Bool.and_eq_true] at f
    cases h with
    | cons a b => rw [List.countP_cons, List.countP_cons, eqF_V (.inl a) h' f.1 f', cnt_V h' f' b f.2]
theorem pv_cnt {B : Bs} : PVmt B (rCntF B.2.2) .fz cntD := by
  intro x xs d ds H W Q z hx hxs hz hW k
  match d, ds, hxs, hz with
  | .list bs, [e], hxs, hz =>
    simp only [cntD] at hz
    split at hz
    · rename_i hc
      rw [Bool.and_eq_true] at hc
      cases hz
      obtain ⟨u, rfl, ru⟩ := rqAll1 hxs
      obtain ⟨p, ys, rfl, rd, l, qa⟩ := rq_list hx
      exact ⟨p, ys, u, rfl, rfl, rd.sq, flat_rq ru hc.2, flat_all qa hc.1, by rw [cnt_V ru hc.2 qa hc.1]; exact k.int⟩
    · cases hz
  | .list _, [], _, hz => simp [cntD] at hz
  | .list _, _ :: _ :: _, _, hz => simp [cntD] at hz
  | .none, _, _, hz => simp [cntD] at hz
  | .bool _, _, _, hz => simp [cntD] at hz
  | .int _, _, _, hz => simp [cntD] at hz
  | .str _, _, _, hz => simp [cntD] at hz
  | .tuple _, _, _, hz => simp [cntD] at hz
  | .dict _, _, _, hz => simp [cntD] at hz
def idxD : D → List D → Option D
  | .list ds, [e] => if (ds.all flatD && flatD e) = true then (ds.findIdx? fun z => eqF z e).map fun i => .int (i : Nat) else none
  | _, _ => none
theorem pv_idx {B : Bs} : PVmt B (rIndex B.2.2) .fz idxD := by
  intro x xs d ds H W Q z hx hxs hz hW k
  match d, ds, hxs, hz with
  | .list bs, [e], hxs, hz =>
    simp only [idxD] at hz
    split at hz
    · rename_i hc
      rw [Bool.and_eq_true] at hc
      obtain ⟨j, hj, rfl⟩ := Option.map_eq_some_iff.mp hz
      obtain ⟨u, rfl, ru⟩ := rqAll1 hxs
      obtain ⟨p, ys, rfl, rd, l, qa⟩ := rq_list hx
      obtain ⟨hlt, h1, h2⟩ := List.findIdx?_eq_some_iff_getElem.mp hj
      obtain ⟨w, hw, rw_⟩ := qa.get (List.getElem?_eq_getElem hlt)
      have fl : ∀ (m : Nat) d, bs[m]? = some d → flatD d = true := fun m d hm => List.all_eq_true.mp hc.1 d (List.mem_of_getElem? hm)
      refine ⟨p, ys, u, j, w, rfl, rfl, rd.sq, flat_rq ru hc.2, flat_all qa hc.1, hw, ?_, fun m z' hm hz' => ?_, k.int⟩
      · rw [eqF_V (.inl rw_) ru (fl j _ (List.getElem?_eq_getElem hlt)) hc.2]; exact h1
      · obtain ⟨d', hd', rd'⟩ := qa.getV hz'
        rw [eqF_V (.inl rd') ru (fl m _ hd') hc.2]
        have hml : m < bs.length := (List.getElem?_eq_some_iff.mp hd').1
        have := h2 m hm
        rw [List.getElem?_eq_getElem hml] at hd'
        cases hd'
        simpa using this
    · cases hz
  | .list _, [], _, hz => simp [idxD] at hz
  | .list _, _ :: _ :: _, _, hz => simp [idxD] at hz
  | .none, _, _, hz => simp [idxD] at hz
  | .bool _, _, _, hz => simp [idxD] at hz
  | .int _, _, _, hz => simp [idxD] at hz
  | .str _, _, _, hz => simp [idxD] at hz
  | .tuple _, _, _, hz => simp [idxD] at hz
  | .dict _, _, _, hz => simp [idxD] at hz

theorem ixN_lt {n j : Nat} {i : Int} (h : ixN n i = some j) : j < n := by
  unfold ixN at h
  split at h
  · split at h
    · cases h; omega
    · cases h
  · split at h
    · cases h; omega
    · cases h
/-! ### a def's promise, by its name -/
structure KnF (P : Program) (w : World) (K : PySem.W.Frag) (mg : Str → Option Value) (base : Heap) (x : Str) (lev : Nat) (ps : List Str) (sp : Sp) (f : Addr) : Prop where
  g : mg x = some (.ref f)
  kp : PySem.W.keepIn K (.ref f) = true
  ok : ∃ fd, Binds K fd ps [] ∧ FnOk P w K mg base (L2.CX P w) lev f fd ps sp
def Kn (P : Program) (w : World) (K : PySem.W.Frag) (mg : Str → Option Value) (base : Heap) (x : Str) (lev : Nat) (ps : List Str) (Γ : Nat → T) (cl : Nat → Value) (p : Option Nat) (n : Nat) (tr : T) (m : List D → Res D) : Prop := ∃ f, KnF P w K mg base x lev ps (spF (P, w, K) Γ cl p n tr m) f
section
variable {X : Cx} {G : Sg} {W : WX} {e : Expr} {es : List Expr} {fs : Env → Res (List Arg)} {x : Str} {pos pp : Pos} {ps : List Str} {lev j : Nat} {Γc : Nat → T} {n : Nat} {tr : T} {m : List D → Res D}
theorem dx_kn (p : Option (Nat × Nat)) (Fk : Kn X.prog X.w X.K X.mg X.base x lev ps Γc G.cl (p.map Prod.fst) n tr m) (hB : G.B = (X.prog, X.w, X.K)) (tk : Takes X W) (hr : Room j X.A) (hl : lev ≤ j) (hg : Gl X x)
    (hΓ : fzAll Γc (p.map Prod.fst) n = true) (hp : ∀ q, p = some q → Γc q.1 = G.Γ q.2) (ha : DA X G W (e :: es) fs) (hdb : (x == ("__debug__" : Str)) = false := by decide) (he : starEach (e :: es) X.env = (false, eval e X.env) :: starEach es X.env := by rfl) (hpl : (backTo pos (starEach es X.env)).any (·.1) = false := by rfl) :
    DX X G W tr (.Call (.Name x pp) (e :: es) [] pos) (eCall n p m fs) := by
  obtain ⟨f, hm, hk, fd, hb, hf⟩ := Fk
  rw [← hB] at hf
  exact dx_call (p := p) tk hf (hr.mono hl) hg hm hk hb hΓ hp ha hdb he hpl
/-! ### [f, g, ..][i](..) -/
def tFs (l : List Addr) : TA := fun _ H Q => Q (l.map V.ref) H
theorem pa_fs_nil : PA X [] (tFs []) := pa_nil
theorem pa_fs_cons {f : Addr} {l : List Addr} {p : Pos} (hg : Gl X x) (hm : X.mg x = some (.ref f)) (h : PA X es (tFs l)) (hd : (x == ("__debug__" : Str)) = false := by decide) (hs : starEach (.Name x p :: es) X.env = (false, eval (.Name x p) X.env) :: starEach es X.env := by rfl) : PA X (.Name x p :: es) (tFs (f :: l)) :=
  pa_cons (pe_glob (v := .ref f) hg hm rfl hd) h hs
def eCallIx (k n : Nat) (ms : Nat → List D → Res D) (fi : Env → Res Arg) (fs : Env → Res (List Arg)) : Env → Res D := fun ρ => bnd (fi ρ) fun a ρ1 => match deref ρ1 a with
  | some (.int i) => match ixN k i with
    | some j => bnd (fs ρ1) fun as ρ2 => callM n none (ms j) as ρ2
    | none => .err
  | _ => .err
theorem dx_callIx {nm : List Expr} {ix : Expr} {p1 p2 : Pos} {l : List Addr} {fi : Env → Res Arg} {ms : Nat → List D → Res D} (hl : PA X nm (tFs l)) (hk : l.length ≤ sizeLine)
    (Fk : ∀ i f, l[i]? = some f → PySem.W.keepIn X.K (.ref f) = true ∧ ∃ fd ps Γ, Binds X.K fd ps [] ∧ fzAll Γ none n = true ∧ FnOk X.prog X.w X.K X.mg X.base (L2.CX X.prog X.w) lev f fd ps (spF (X.prog, X.w, X.K) Γ G.cl none n tr (ms i)))
    (hB : G.B = (X.prog, X.w, X.K)) (tk : Takes X W) (hr : Room j X.A) (hlv : lev ≤ j) (hi : DO X G W ix fi) (hpi : PlainIx ix) (ha : DA X G W (e :: es) fs) (he : starEach (e :: es) X.env = (false, eval e X.env) :: starEach es X.env := by rfl) (hpl : (backTo pos (starEach es X.env)).any (·.1) = false := by rfl)
    (hev : eval (.Call (.Subscript (.List nm p1) ix p2) (e :: es) [] pos) X.env = (do callWith pos (← eval (.Subscript (.List nm p1) ix p2) X.env) [] (backTo pos (starEach (e :: es) X.env)) (backToKw pos (keywordEach [] X.env))) := by rfl) :
    DX X G W tr (.Call (.Subscript (.List nm p1) ix p2) (e :: es) [] pos) (eCallIx l.length n ms fi fs) := by
  refine ⟨fun pins s σ H Q I h => ?_⟩
  obtain ⟨F0, ρ, E, g⟩ := h
  refine Call_ (thn ((pe_ix ix_seq (pe_lst hl) hi hpi).run pins s σ H (fun v H1 => ∃ jx f F1 ρ1, v = .ref f ∧ l[jx]? = some f ∧ EnvOk G σ ρ1 H1 F1 ∧ Go G W σ (bnd (fs ρ1) fun as ρ2 => callM n none (ms jx) as ρ2) H1 F1 fun d _ H' F' Fl => ∀ v, Own G.B H' (Wof F' (G.add Fl).O) tr v d Fl → Q v H') I ?_) fun u s1 ⟨v, H1, I1, r1, q1⟩ => ?_) hev
  · refine ⟨by simpa using hk, fun p hp => ?_⟩
    have E' : EnvOk G σ ρ (upd H p (.lst (l.map V.ref))) F0 := E.ext (ext_upd hp)
    have g' := Go.after g (Evo.of_ext (F := F0) (ext_upd (o := .lst (l.map V.ref)) hp))
    refine tO_bind E' g' fun y a1 ρ1 H1 F1 E1 o1 g1 ev1 => ?_
    cases e1 : deref ρ1 a1 with
    | none => rw [e1] at g1; exact g1.elim
    | some d =>
      cases d with
      | int i =>
        simp only [e1] at g1
        cases e2 : ixN l.length i with
        | none => simp only [e2] at g1; exact g1.elim
        | some jx =>
          simp only [e2] at g1
          have hpin : ∀ i, p ∉ F0 i := fun i hi => by
            obtain ⟨o, e⟩ := E.hv i p hi
            rw [hp] at e; cases e
          have hL : H1 p = some (.lst (l.map V.ref)) := ev1.keep p _ upd_same hpin
          have hat : L2.atI (l.map V.ref) i = (l.map V.ref)[jx]? := by
            unfold L2.atI
            rw [List.length_map, e2]; rfl
          have hjx : jx < l.length := ixN_lt e2
          refine .inl ⟨p, l.map V.ref, i, .ref l[jx], rfl, rq_int (o1.rq E1 e1), .inl (.inl hL), ?_, jx, l[jx], F1, ρ1, rfl, List.getElem?_eq_getElem hjx, E1, g1⟩
          rw [hat, List.getElem?_map, List.getElem?_eq_getElem hjx]; rfl
      | _ => simp only [e1] at g1; exact g1.elim
  · obtain ⟨jx, f, F1, ρ1, rfl, hf, E1, g1⟩ := q1
    cases r1
    obtain ⟨kp, fd, ps, Γ, hb, hΓ, hok⟩ := Fk jx f hf
    rw [← hB] at hok
    refine PySem.W.callWith_K (h₀ := X.base) I1.ok.mod.kin kp (thn (ha.run pos pins s1 σ H1 _ I1 (tAs_bind E1 g1 (R := fun vs H2 => spF G.B Γ G.cl none n tr (ms jx) vs H2 Q (WE W σ)) fun vs as ρ2 H2 F2 E2 os g2 _ => call_end (p := none) hΓ (fun q z => nomatch z) E2 os g2)) fun us s2 ⟨vs, H2, I2, r, q⟩ => ⟨I2.kIn, ?_⟩) he hpl
    exact run_fnS hok (hr.mono hlv) hb (passAt tk σ) I2 r q
end
end PD

set_option Elab.async false
set_option linter.all false
set_option maxRecDepth 100000
set_option maxHeartbeats 4000000
/-! PDn: sorted(set(..)), isinstance of the caught error. -/
namespace PD
open PySem PySem.Spec PyProof.Rows L2 RZ

def sset0 : List D → Option D
  | [.list []] => some (.list [])
  | _ => none
section
variable {X : Cx} {G : Sg} {W : WX} {e : Expr} {f : Env → Res Arg} {p1 p2 pos q : Pos} {x y : Str} {pos' : Pos}
theorem dx_sset0 (hB : G.B.2.2 = X.K) (hc : X.calm = true) (hu : X.A.units + 64 < cLine) (hg : Gl X "sorted") (hm : X.mg "sorted" = none) (hg2 : Gl X "set") (hm2 : X.mg "set" = none) (hv : bootBuiltins "sorted" = some (.builtin "sorted")) (hv2 : bootBuiltins "set" = some (.type "set")) (ha : DO X G W e f)
    (he : starEach [e] X.env = (false, eval e X.env) :: starEach [] X.env := by rfl) (hpl : (backTo q (starEach [] X.env)).any (·.1) = false := by rfl)
    (he' : starEach [.Call (.Name "set" p2) [e] [] q] X.env = (false, eval (.Call (.Name "set" p2) [e] [] q) X.env) :: starEach [] X.env := by rfl) (hpl' : (backTo pos (starEach [] X.env)).any (·.1) = false := by rfl) :
    DX X G W (.lst .fz) (.Call (.Name "sorted" p1) [.Call (.Name "set" p2) [e] [] q] [] pos) (eOpN sset0 (aCons f aNil)) :=
  PE.imp (pe_callB (cr_sortedT hc) hg hm hv (pa_cons (pe_callTy (cr_setOfT hc hu) hg2 hm2 hv2 (pa_cons ha pa_nil he) (by decide) (by decide) he hpl) pa_nil he') (by decide) (by decide) he' hpl') fun σ H Q ⟨F, ρ, E, g⟩ => by
    unfold eOpN aCons aNil at g
    have g' : Go G W σ (bnd (f ρ) fun a ρ1 => match derefs ρ1 [a] with | some ds => ofO (sset0 ds) ρ1 | none => .err) H F (fun d _ H' F' Fl => ∀ v, Own G.B H' (Wof F' (G.add Fl).O) (.lst .fz) v d Fl → Q v H') := by
      cases q1 : f ρ with
      | err => rw [q1] at g; exact g
      | exc _ _ => rw [q1] at g; exact g
      | ok a1 ρ1 => rw [q1] at g; exact g
    refine tO_bind E g' fun v a1 ρ1 H1 F1 E1 o1 g1 _ => ?_
    unfold derefs at g1
    cases e1 : deref ρ1 a1 with
    | none => rw [e1] at g1; exact g1.elim
    | some d =>
      rw [e1] at g1
      simp only [derefs, Option.bind_some, Option.map_some] at g1
      have hd : d = .list [] ∨ sset0 [d] = none := by
        cases d with
        | list ds => cases ds with
          | nil => exact .inl rfl
          | cons _ _ => exact .inr rfl
        | _ => exact .inr rfl
      rcases hd with rfl | hd
      · obtain ⟨a, xs, rfl, rd, _, qa⟩ := rq_list (o1.rq E1 e1)
        have hx : xs = [] := by cases qa; rfl
        subst hx
        refine ⟨a, [], rfl, (hB ▸ rd.sq : SqL X.K H1 a []), fun p hp => (nomatch hp), by decide, fun s L hs hL _ => ?_⟩
        have hL0 : L = [] := by
          cases L with
          | nil => rfl
          | cons p _ => exact (nomatch hL p List.mem_cons_self)
        subst hL0
        refine ⟨s, [], 1, 1, rfl, upd_same, fun p hp => (nomatch hp), by decide, fun p hp => (nomatch hp), fun L' r pm _ _ _ hr => ?_⟩
        have : L' = [] := pm.eq_nil
        subst this
        have ex : Ext H1 (upd H1 s (SetTO X.prog X.w s [])) := ext_upd hs
        refine VOut.lst (B := G.B) (W := Wof F1 G.O) (ds := []) (fun v H' Fl k hn nd o => ?_) hr .nil (Nat.zero_le _)
        have g2 := Go.after (G := G) (W := W) (σ := σ) (m := (Res.ok (PyData.list []) ρ1 : Res D)) g1 (Evo.of_ext (F := F1) ex)
        obtain ⟨h3, o'⟩ := g2.fin (E1.ext ex) k hn nd o
        exact h3 v o'
      · rw [hd] at g1; exact g1.elim
/-! ### isinstance of the caught error -/
theorem dx_isE {a D : Addr} {oe : Obj} {i : Nat} {cv : Value} {v : V} {b : Bool} (C : ExcC X.K D) (hz : Zc (.ref D) none oe) (hf : ∃ vs, oe.data = .fields vs) (hpn : (a, oe) ∈ X.pn) (hpi : G.pin i = some (.ref a)) (hN : X.N[i]? = some x) (hvis : Vis X.env.scope x)
    (hg : Gl X "isinstance") (hm : X.mg "isinstance" = none) (hv : bootBuiltins "isinstance" = some (.builtin "isinstance")) (hc : PE X (.Name y p2) (tC v)) (hcv : ∀ u, RelV v u → u = cv) (hk : PySem.W.kitOne X.K (.ref D) cv = some b)
    (hd : (x == ("__debug__" : Str)) = false := by decide) (hcd : (x == ("__classdict__" : Str)) = false := by decide)
    (he : starEach [.Name x pos', .Name y p2] X.env = (false, eval (.Name x pos') X.env) :: starEach [.Name y p2] X.env := by rfl) (he2 : starEach [.Name y p2] X.env = (false, eval (.Name y p2) X.env) :: starEach [] X.env := by rfl) (hpl : (backTo pos (starEach [.Name y p2] X.env)).any (·.1) = false := by rfl) :
    DX X G W .fz (.Call (.Name "isinstance" p1) [.Name x pos', .Name y p2] [] pos) (eC (.bool b)) :=
  PE.imp (pe_callB (call_isEx C hz hf hpn) hg hm hv (pa_cons (pe_var hN hvis hd hcd) (pa_cons hc pa_nil he2) he) (by decide) (by decide) he hpl) fun σ H Q ⟨F, ρ, E, g⟩ =>
    ⟨.ref a, E.pn i _ hpi, v, cv, b, rfl, hcv, hk, Go.done g E _ (.fz (.bl b))⟩
end
end PD

set_option Elab.async false
set_option linter.all false
set_option maxRecDepth 100000
set_option maxHeartbeats 4000000
/-! PDo: helpers for the printed derivations; the def that tells a caught error. -/
namespace PD
open PySem PySem.Spec PyProof.Rows L2 RZ

theorem hu64 {k : Nat} {A : Around} (r : Room k A) : A.units + 64 < cLine := r.units
theorem hu65 {k : Nat} {A : Around} (r : Room k A) : A.units + 65 < cLine := by have := r.un; omega
theorem hu70 {k : Nat} {A : Around} (r : Room k A) : A.units + 70 < cLine := by have := r.un; omega
theorem hu64H {k : Nat} {A : Around} (r : L2H.RoomH k A) : A.units + 64 < cLine := by have := r.un; omega
theorem all1 {P : Nat → Prop} {x : Str} {i : Nat} (h : P i) : ∀ j ∈ [(x, i)].map (fun p : Str × Nat => p.2), P j := fun j hj => by
  have e : j = i := by simpa using hj
  rw [e]; exact h
theorem all2 {P : Nat → Prop} {x y : Str} {i k : Nat} (h : P i) (h' : P k) : ∀ j ∈ [(x, i), (y, k)].map (fun p : Str × Nat => p.2), P j := fun j hj => by
  have e : j = i ∨ j = k := by simpa using hj
  rcases e with e | e <;> rw [e] <;> assumption
theorem all3 {P : Nat → Prop} {x y z : Str} {i k l : Nat} (h : P i) (h' : P k) (h2 : P l) : ∀ j ∈ [(x, i), (y, k), (z, l)].map (fun p : Str × Nat => p.2), P j := fun j hj => by
  have e : j = i ∨ j = k ∨ j = l := by simpa using hj
  rcases e with e | e | e <;> rw [e] <;> assumption
section
variable {X : Cx} {G : Sg} {W : WX} {x : Str} {pos : Pos}
theorem dx_gI {u : Int} (hg : Gl X x) (hm : ∃ tk, X.mg x = some (.int u tk)) (hd : (x == ("__debug__" : Str)) = false := by decide) : DX X G W .fz (.Name x pos) (eC (.int u)) := by
  obtain ⟨tk, h⟩ := hm
  exact dx_globI hg h hd
theorem dx_gS {u : Str} (hg : Gl X x) (hm : ∃ tk, X.mg x = some (.str u tk)) (hl : u.length ≤ lim) (hd : (x == ("__debug__" : Str)) = false := by decide) : DX X G W .fz (.Name x pos) (eC (.str u)) := by
  obtain ⟨tk, h⟩ := hm
  exact dx_globS hg h hl hd
end
/-- a def as it stands behind the top -/
def FnT (K : PySem.W.Frag) (mg : Str → Option Value) (x : Str) (st : Stmt) (ps : List Str) : Prop := ∃ f fd, Fun K x x st f fd ∧ mg x = some (.ref f) ∧ Binds K fd ps []

/-! ### the defs of a written list -/
def FsOk (P : Program) (w : World) (K : PySem.W.Frag) (mg : Str → Option Value) (base : Heap) (cl : Nat → Value) (lev n : Nat) (tr : T) (l : List Addr) (ms : Nat → List D → Res D) : Prop :=
  ∀ i f, l[i]? = some f → PySem.W.keepIn K (.ref f) = true ∧ ∃ fd ps Γ, Binds K fd ps [] ∧ fzAll Γ none n = true ∧ FnOk P w K mg base (L2.CX P w) lev f fd ps (spF (P, w, K) Γ cl none n tr (ms i))
section
variable {P : Program} {w : World} {K : PySem.W.Frag} {mg : Str → Option Value} {base : Heap} {cl : Nat → Value} {lev n : Nat} {tr : T}
theorem fs_nil {ms : Nat → List D → Res D} : FsOk P w K mg base cl lev n tr [] ms := fun i f h => by simp at h
theorem fs_cons {x : Str} {f : Addr} {l : List Addr} {ms : Nat → List D → Res D} {lev' : Nat} {ps : List Str} {Γ : Nat → T} {m : List D → Res D} (k : KnF P w K mg base x lev' ps (spF (P, w, K) Γ cl none n tr m) f) (hl : lev' ≤ lev) (hΓ : fzAll Γ none n = true) (e : ms 0 = m) (h : FsOk P w K mg base cl lev n tr l fun i => ms (i + 1)) :
    FsOk P w K mg base cl lev n tr (f :: l) ms := fun i f' hi => by
  cases i with
  | zero =>
    cases hi
    obtain ⟨fd, hb, ok⟩ := k.ok
    rw [e]
    exact ⟨k.kp, fd, ps, Γ, hb, hΓ, ok.mono hl⟩
  | succ i => exact h i f' (by simpa using hi)
end
/-! ### the def that tells a caught error -/
def spW (B : Bs) (cl : Nat → Value) (wh : Nat → D) : Addr × Obj → Sp := fun q vs H Q E => ∃ cn O, vs = [.ref q.1] ∧ Zc (cl cn) none q.2 ∧ (∃ vs, q.2.data = .fields vs) ∧ (∀ a, O a → ∃ o, H a = some o) ∧ ∀ v H', Ext H H' → Rp B H' O v (wh cn) → Q v H'
def gW (B : Bs) (Γ : Nat → T) (cl : Nat → Value) (O : Wr) (a : Addr) : Sg := ⟨B, Γ, O, fun i => match i with | 0 => some (.ref a) | _ + 1 => none, cl⟩
theorem fn_okW {P : Program} {w : World} {K : PySem.W.Frag} {mg : Str → Option Value} {base : Heap} {x p : Str} {st : Stmt} {f : Addr} {fd : FuncData} {N : List Str} {lev k : Nat} {Γ : Nat → T} {cl : Nat → Value} {wh : Nat → D} {body : Nat → Env → SR} (Fn : Fun K x x st f fd) (S : FnScope N [p] (defScope st)) (hN : N.length = 1 + k)
    (hb : ∀ (cdv : Value) (A : Around) (outer : List PySem.Env) (s : Shared) (H : Hp) (E : XK) (O : Wr) (q : Addr × Obj) (cn : Nat), L2H.RoomH lev (A.deeper (envOfC x (defScope st) s.heap.objs.size f cdv)) → Zc (cl cn) none q.2 → (∃ vs, q.2.data = .fields vs) →
      DSs (L2H.cxH (L2.CX P w) P w K mg base N x (defScope st) f cdv A outer s H E q) (gW (P, w, K) Γ cl O q.1) W0 .fz (defBody st) (body cn))
    (hret : ∀ cn, ∃ ρ, body cn (List.replicate (1 + k) none) = .ret (wh cn) ρ) : FnW P w K mg base (lev + 1) f fd [p] (spW (P, w, K) cl wh) :=
  fn_ofW Fn S (fun q vs H Q E h => by obtain ⟨_, _, rfl, _⟩ := h; rfl) fun cdv A outer s H vs Q E q hr h => by
    obtain ⟨cn, O, rfl, hz, hf, hO, hk⟩ := h
    refine ⟨_, hb cdv A outer s H E O q cn hr hz hf, fun _ => [], List.replicate (1 + k) none, ?_, ?_⟩
    · refine ⟨?_, fun i d e => ?_, fun _ => List.nodup_nil, fun i j a h => (nomatch h), fun i a h => (nomatch h), fun i a h => (nomatch h), hO, fun i v e => ?_, fun _ _ => rfl⟩
      · unfold L2.start
        simp [hN]
        omega
      · rw [List.getElem?_replicate] at e
        split at e <;> cases e
      · cases i with
        | zero =>
          have e' : some (V.ref q.1) = some v := e
          cases e'
          rfl
        | succ i => exact (nomatch e)
    · obtain ⟨ρ, e⟩ := hret cn
      rw [e]
      intro σ' H' F' Fl ev fo E' v o
      obtain ⟨rfl, r⟩ := Own.fz_inv o
      exact hk v H' (fun a o e => ev.keep a o e fun i hi => (nomatch hi)) (r.anti fun a z => .inr (.inl z))
def sWh (wh : Nat → D) (c : Nat) : Env → SR := fun ρ => .ret (wh c) ρ
theorem roomH_mark {k : Nat} {A : Around} {v : Option Value} (r : Room k A) : L2H.RoomH k (A.mark v) := ⟨r.dp, r.un⟩
theorem su_which {X : Cx} {G : Sg} {i lev j : Nat} {x n p : Str} {f : Addr} {fd : FuncData} {wh : Nat → D} {p1 p2 p3 p4 : Pos} (Fk : FnW X.prog X.w X.K X.mg X.base lev f fd [p] (spW G.B G.cl wh)) (hr : Room j X.A) (hl : lev ≤ j) (hg : Gl X x) (hm : X.mg x = some (.ref f)) (hk : PySem.W.keepIn X.K (.ref f) = true) (hb : Binds X.K fd [p] [])
    (hN : X.N[i]? = some n) (hv : Vis X.env.scope n) (hs : starEach [.Name n p3] X.env = (false, eval (.Name n p3) X.env) :: starEach [] X.env := by rfl) (hpl : (backTo p2 (starEach [] X.env)).any (·.1) = false := by rfl) (hdb : (x == ("__debug__" : Str)) = false := by decide) (hd : (n == ("__debug__" : Str)) = false := by decide) (hcd : (n == ("__classdict__" : Str)) = false := by decide) :
    ∀ (a : Addr) (oe : Obj) (cls : Value) (d : Option Addr) (pn : List (Addr × Obj)), Zc cls d oe → (∃ vs, oe.data = .fields vs) → PSs (X.suite a ((a, oe) :: pn)) [.Return (some (.Call (.Name x p1) [.Name n p3] [] p2)) p4] (tSu G W0 .fz i (sWh wh) a cls d) := by
  intro a oe cls d pn hz hf
  refine PSs.imp (pss_one (ps_ret (pe_callW (t := tCons (tVar i) tNil) Fk ((roomH_mark hr).mono hl) hg hm hk hb (pa_cons (X := X.suite a ((a, oe) :: pn)) (pe_var hN hv hd hcd) pa_nil hs) hdb hs hpl))) fun Dn σ H h => ?_
  obtain ⟨cn, F, ρ, rfl, rfl, E, hσ, hn, g⟩ := h
  refine ⟨.ref a, hσ, cn, Wof F G.O, rfl, hz, hf, there_W E, fun v H' k r => ?_⟩
  refine g σ H' F [] (Evo.of_ext k) FlOk.nil (by rw [Sg.add_nil]; exact E.ext k) v ?_
  rw [Sg.add_nil]
  exact .fz r
end PD

set_option Elab.async false
set_option linter.all false
set_option maxRecDepth 100000
set_option maxHeartbeats 4000000
/-! PDp: the operations at data, for the plain laws. -/
namespace PD
open PySem PySem.Spec PyProof.Rows L2 RZ

theorem leD_int (a b : Int) : leD (.int a) (.int b) = some (.bool (decide (a ≤ b))) := by
  unfold leD
  rw [if_pos (show cmpOk (.int a) (.int b) = true from rfl), PySem.W.dataLt_int]
  congr 2
  by_cases q : b < a <;> simp [q] <;> omega
theorem ltD_int (a b : Int) : ltD (.int a) (.int b) = some (.bool (decide (a < b))) := by
  unfold ltD
  rw [if_pos (show cmpOk (.int a) (.int b) = true from rfl), PySem.W.dataLt_int]
theorem gtD_int (a b : Int) : gtD (.int a) (.int b) = some (.bool (decide (b < a))) := by
  unfold gtD
  rw [if_pos (show cmpOk (.int a) (.int b) = true from rfl), PySem.W.dataLt_int]
theorem geD_int (a b : Int) : geD (.int a) (.int b) = some (.bool (decide (b ≤ a))) := by
  unfold geD
  rw [if_pos (show cmpOk (.int a) (.int b) = true from rfl), PySem.W.dataLt_int]
  congr 2
  by_cases q : a < b <;> simp [q] <;> omega
theorem eqD_int (a b : Int) : eqD (.int a) (.int b) = some (.bool (a == b)) := by
  unfold eqD
  rw [if_pos (show (SeqAt.shaped (.int a) && SeqAt.shaped (.int b)) = true from rfl)]
  simp [PyData.eqv]
theorem neD_int (a b : Int) : neD (.int a) (.int b) = some (.bool (!(a == b))) := by
  unfold neD
  rw [if_pos (show (SeqAt.shaped (.int a) && SeqAt.shaped (.int b)) = true from rfl)]
  simp [PyData.eqv]
/-- a whole number within bounds -/
def wh (d : D) (lo hi : Int) : Bool := match d with
  | .int i => decide (lo ≤ i) && decide (i ≤ hi)
  | _ => false
/-! ### evaluation -/
section
variable {ρ : Env} {f g : Env → SR} {fd gd hd : Env → Res D} {fo go ho : Env → Res Arg} {fs : Env → Res (List Arg)} {c c2 : Env → Res Bool} {i j n c' : Nat} {d : D} {T' : Tg} {fi : Env → Res (List D)} {g2 g3 : D → D → Option D} {g1 : D → Option D} {gn : List D → Option D} {gs : D → Option Int → Option Int → Option D} {fl fu : Env → Res (Option Int)}
@[simp] theorem ev_sNil : sNil ρ = .nx ρ := rfl
@[simp] theorem ev_sSeq : sSeq f g ρ = sThen (f ρ) g := rfl
@[simp] theorem ev_sDrop : sDrop fd ρ = bS (fd ρ) fun _ ρ1 => .nx ρ1 := rfl
@[simp] theorem ev_sRet : sRet fd ρ = bS (fd ρ) fun d ρ1 => .ret d ρ1 := rfl
@[simp] theorem ev_sIf : sIf c f g ρ = bS (c ρ) fun b ρ1 => if b = true then f ρ1 else g ρ1 := rfl
@[simp] theorem ev_sSet : sSet i fd ρ = bS (fd ρ) fun d ρ1 => if i < ρ1.length then .nx (ρ1.set i (some d)) else .err := rfl
@[simp] theorem ev_sAsg : sAsg T' fd ρ = bS (fd ρ) fun d ρ1 => match bindT T' d ρ1 with | some ρ2 => .nx ρ2 | none => .err := rfl
@[simp] theorem ev_sExc : sExc c' ρ = .exc c' ρ := rfl
@[simp] theorem ev_sErr : sErr ρ = .err := rfl
@[simp] theorem ev_sFor : sFor T' fi f ρ = bS (fi ρ) fun ds ρ1 => forGo T' f ds ρ1 := rfl
@[simp] theorem ev_eVar : eVar i ρ = ofO (slotD ρ i) ρ := rfl
@[simp] theorem ev_eC : eC d ρ = .ok d ρ := rfl
@[simp] theorem ev_aNil : aNil ρ = .ok [] ρ := rfl
@[simp] theorem ev_aCons : aCons fo fs ρ = bnd (fo ρ) fun a ρ1 => bnd (fs ρ1) fun as ρ2 => .ok (a :: as) ρ2 := rfl
@[simp] theorem ev_eTup : eTup fs ρ = bnd (fs ρ) fun as ρ1 => match valsOf as with | some ds => if ds.length ≤ lim then .ok (.tuple ds) ρ1 else .err | none => .err := rfl
@[simp] theorem ev_eLst : eLst fs ρ = bnd (fs ρ) fun as ρ1 => match valsOf as with | some ds => if ds.length ≤ lim then .ok (.list ds) ρ1 else .err | none => .err := rfl
@[simp] theorem ev_op2 {a b : Arg} : op2 g2 ρ a b = match deref ρ a with | some x => (match deref ρ b with | some y => ofO (g2 x y) ρ | none => .err) | none => .err := rfl
@[simp] theorem ev_eOp2 : eOp2 g2 fo go ρ = bnd (fo ρ) fun a ρ1 => bnd (go ρ1) fun b ρ2 => op2 g2 ρ2 a b := rfl
@[simp] theorem ev_eOp1 : eOp1 g1 fo ρ = bnd (fo ρ) fun a ρ1 => match deref ρ1 a with | some x => ofO (g1 x) ρ1 | none => .err := rfl
@[simp] theorem ev_eOpN : eOpN gn fs ρ = bnd (fs ρ) fun as ρ1 => match derefs ρ1 as with | some ds => ofO (gn ds) ρ1 | none => .err := rfl
@[simp] theorem ev_bOf : bOf fd ρ = bnd (fd ρ) fun d ρ1 => ofO (boolD d) ρ1 := rfl
@[simp] theorem ev_eAnd : eAnd fd gd ρ = bnd (fd ρ) fun d ρ1 => match d with | .bool true => gd ρ1 | .bool false => .ok (.bool false) ρ1 | _ => .err := rfl
@[simp] theorem ev_eOr : eOr fd gd ρ = bnd (fd ρ) fun d ρ1 => match d with | .bool true => .ok (.bool true) ρ1 | .bool false => gd ρ1 | _ => .err := rfl
@[simp] theorem ev_eNot : eNot fd ρ = bnd (fd ρ) fun d ρ1 => match d with | .bool b => .ok (.bool !b) ρ1 | _ => .err := rfl
@[simp] theorem ev_bAnd : bAnd c c2 ρ = bnd (c ρ) fun b ρ1 => if b = true then c2 ρ1 else .ok false ρ1 := rfl
@[simp] theorem ev_bOr : bOr c c2 ρ = bnd (c ρ) fun b ρ1 => if b = true then .ok true ρ1 else c2 ρ1 := rfl
@[simp] theorem ev_bNot : bNot c ρ = bnd (c ρ) fun b ρ1 => .ok (!b) ρ1 := rfl
@[simp] theorem ev_eIf : eIf c fd gd ρ = bnd (c ρ) fun b ρ1 => if b = true then fd ρ1 else gd ρ1 := rfl
@[simp] theorem ev_eChain : eChain g2 g3 fo go ho ρ = bnd (fo ρ) fun a ρ1 => bnd (go ρ1) fun b ρ2 => bnd (op2 g2 ρ2 a b) fun d ρ3 => match d with | .bool true => bnd (ho ρ3) fun c ρ4 => op2 g3 ρ4 b c | .bool false => .ok (.bool false) ρ3 | _ => .err := rfl
@[simp] theorem ev_pNone : pNone ρ = .ok none ρ := rfl
@[simp] theorem ev_pSome : pSome fd ρ = bnd (fd ρ) fun d ρ1 => match d with | .int i => .ok (some i) ρ1 | _ => .err := rfl
@[simp] theorem ev_eSl : eSl gs fo fl fu ρ = bnd (fo ρ) fun a ρ1 => bnd (fl ρ1) fun l ρ2 => bnd (fu ρ2) fun u ρ3 => match deref ρ3 a with | some x => ofO (gs x l u) ρ3 | none => .err := rfl
@[simp] theorem ev_oVal : oVal fd ρ = bnd (fd ρ) fun d ρ1 => .ok (.val d) ρ1 := rfl
@[simp] theorem ev_oSlot : oSlot j ρ = match slotD ρ j with | some _ => .ok (.io j) ρ | none => .err := rfl
@[simp] theorem ev_oLend : oLend j ρ = match slotD ρ j with | some _ => .ok (.lnd j) ρ | none => .err := rfl
@[simp] theorem ev_iOf : iOf fd ρ = bnd (fd ρ) fun d ρ1 => ofO (itemsD d) ρ1 := rfl
@[simp] theorem ev_iRg1 : iRg1 fd ρ = bnd (fd ρ) fun d ρ1 => ofO (rgItems (.int 0) d) ρ1 := rfl
@[simp] theorem ev_iRg2 : iRg2 fd gd ρ = bnd (fd ρ) fun d ρ1 => bnd (gd ρ1) fun e ρ2 => ofO (rgItems d e) ρ2 := rfl
@[simp] theorem ev_iZipD : iZipD fd gd ρ = bnd (fd ρ) fun d ρ1 => bnd (gd ρ1) fun e ρ2 => ofO (zipItems d e) ρ2 := rfl
@[simp] theorem ev_eLc {own : List Nat} : eLc fi T' c fd own ρ = bnd (fi ρ) fun ds ρ1 => bnd (noX (lcGo T' c fd own ds (wipeD ρ1 own))) fun ys ρ2 => .ok (.list ys) (resD ρ1 ρ2 own) := rfl
@[simp] theorem ev_eCall {p : Option (Nat × Nat)} {m : List D → Res D} : eCall n p m fs ρ = bnd (fs ρ) fun as ρ1 => callM n p m as ρ1 := rfl
@[simp] theorem ev_slot0 {x : Option D} : slotD (x :: ρ) 0 = x := rfl
@[simp] theorem ev_slotS {x : Option D} : slotD (x :: ρ) (i + 1) = slotD ρ i := rfl
@[simp] theorem ev_val : deref ρ (.val d) = some d := rfl
@[simp] theorem ev_io : deref ρ (.io j) = slotD ρ j := rfl
@[simp] theorem ev_noX {α : Type} {a : α} : noX (.ok a ρ) = .ok a ρ := rfl
end
/-- a call of a def without changed arguments -/
theorem call1 {ρ : Env} {m : List D → Res D} {a d : D} {os : Env} (h : m [a] = .ok d os) : callM 1 none m [.val a] ρ = .ok d ρ := by simp [callM, argIn, h, putOut]
theorem call2 {ρ : Env} {m : List D → Res D} {a b d : D} {os : Env} (h : m [a, b] = .ok d os) : callM 2 none m [.val a, .val b] ρ = .ok d ρ := by simp [callM, argIn, h, putOut]
theorem call3 {ρ : Env} {m : List D → Res D} {a b c d : D} {os : Env} (h : m [a, b, c] = .ok d os) : callM 3 none m [.val a, .val b, .val c] ρ = .ok d ρ := by simp [callM, argIn, h, putOut]
theorem call4 {ρ : Env} {m : List D → Res D} {a b c e d : D} {os : Env} (h : m [a, b, c, e] = .ok d os) : callM 4 none m [.val a, .val b, .val c, .val e] ρ = .ok d ρ := by simp [callM, argIn, h, putOut]
/-! ### shapes: no dict, at most n deep -/
mutual
def shp : Nat → D → Bool
  | _, .none => true
  | _, .bool _ => true
  | _, .int _ => true
  | _, .str s => PyData.strOk s
  | 0, .list _ => false
  | n + 1, .list ds => shpAll n ds
  | 0, .tuple _ => false
  | n + 1, .tuple ds => shpAll n ds
  | _, .dict _ => false
def shpAll : Nat → List D → Bool
  | _, [] => true
  | n, d :: ds => shp n d && shpAll n ds
end
theorem shpAll_iff {n : Nat} : ∀ {ds : List D}, shpAll n ds = true ↔ ∀ d ∈ ds, shp n d = true
  | [] => by simp [shpAll]
  | d :: ds => by simp [shpAll, shpAll_iff (ds := ds)]
mutual
theorem shp_lay : ∀ (n : Nat) (d : D), shp n d = true → d.canLay0 = true ∧ d.depth ≤ n
  | _, .none, _ => ⟨rfl, Nat.zero_le _⟩
  | _, .bool _, _ => ⟨rfl, Nat.zero_le _⟩
  | _, .int _, _ => ⟨rfl, Nat.zero_le _⟩
  | _, .str s, h => ⟨by simpa [PyData.canLay0, shp] using h, Nat.zero_le _⟩
  | 0, .list _, h => by simp [shp] at h
  | n + 1, .list ds, h => by
    have := shpAll_lay n ds (by simpa [shp] using h)
    exact ⟨by simpa [PyData.canLay0] using this.1, by simp [PyData.depth]; omega⟩
  | 0, .tuple _, h => by simp [shp] at h
  | n + 1, .tuple ds, h => by
    have := shpAll_lay n ds (by simpa [shp] using h)
    exact ⟨by simpa [PyData.canLay0] using this.1, by simp [PyData.depth]; omega⟩
  | _, .dict _, h => by simp [shp] at h
theorem shpAll_lay : ∀ (n : Nat) (ds : List D), shpAll n ds = true → PyData.canLayAll0 ds = true ∧ PyData.depthAll ds ≤ n
  | _, [], _ => ⟨rfl, by simp [PyData.depthAll]⟩
  | n, d :: ds, h => by
    simp only [shpAll, Bool.and_eq_true] at h
    have h1 := shp_lay n d h.1
    have h2 := shpAll_lay n ds h.2
    exact ⟨by rw [PyData.canLayAll0, h1.1, h2.1]; rfl, by simp only [PyData.depthAll]; omega⟩
end
theorem shaped_of {n : Nat} {d : D} (h : shp n d = true) (hn : n ≤ 64) : SeqAt.shaped d = true := by
  have := shp_lay n d h
  unfold SeqAt.shaped
  rw [this.1, Bool.true_and]
  exact decide_eq_true (Nat.le_trans this.2 hn)
theorem eqD_shp {n m : Nat} {d e : D} (h1 : shp n d = true) (h2 : shp m e = true) (hn : n ≤ 64 := by decide) (hm : m ≤ 64 := by decide) : eqD d e = some (.bool (PyData.eqv d e)) := by
  unfold eqD
  rw [shaped_of h1 hn, shaped_of h2 hm]; rfl
theorem neD_shp {n m : Nat} {d e : D} (h1 : shp n d = true) (h2 : shp m e = true) (hn : n ≤ 64 := by decide) (hm : m ≤ 64 := by decide) : neD d e = some (.bool (!PyData.eqv d e)) := by
  unfold neD
  rw [shaped_of h1 hn, shaped_of h2 hm]; rfl
/-! ### loops -/
theorem forGo_inv {T : Tg} {body : Env → SR} (I : Nat → Env → Prop) : ∀ (ds : List D) (k : Nat) (ρ : Env), I k ρ →
    (∀ i d ρ, ds[i]? = some d → I (k + i) ρ → ∃ ρ1 ρ2, bindT T d ρ = some ρ1 ∧ (body ρ1 = .nx ρ2 ∨ body ρ1 = .ct ρ2) ∧ I (k + i + 1) ρ2) → ∃ ρ', forGo T body ds ρ = .nx ρ' ∧ I (k + ds.length) ρ'
  | [], k, ρ, h, _ => ⟨ρ, rfl, h⟩
  | d :: ds, k, ρ, h, step => by
    obtain ⟨ρ1, ρ2, h1, h2, h3⟩ := step 0 d ρ rfl h
    obtain ⟨ρ', e, h4⟩ := forGo_inv I ds (k + 1) ρ2 h3 fun i d ρ hd hi => by
      have := step (i + 1) d ρ (by simpa using hd) (by rw [show k + (i + 1) = k + 1 + i by omega]; exact hi)
      rw [show k + (i + 1) + 1 = k + 1 + i + 1 by omega] at this
      exact this
    refine ⟨ρ', ?_, ?_⟩
    · unfold forGo
      rw [h1]
      rcases h2 with h2 | h2 <;> (simp only [h2]; exact e)
    · rw [List.length_cons, show k + (ds.length + 1) = k + 1 + ds.length by omega]; exact h4
theorem lcGo_map {T : Tg} {elt : Env → Res D} {own : List Nat} {ρ : Env} (g : D → D) : ∀ (ds : List D), (∀ d ∈ ds, ∃ ρ1 ρ2, bindT T d ρ = some ρ1 ∧ elt ρ1 = .ok (g d) ρ2 ∧ wipeD ρ2 own = ρ) → lcGo T bYes elt own ds ρ = .ok (ds.map g) ρ
  | [], _ => rfl
  | d :: ds, h => by
    obtain ⟨ρ1, ρ2, h1, h2, h3⟩ := h d List.mem_cons_self
    have ih := lcGo_map (T := T) (elt := elt) (own := own) (ρ := ρ) g ds fun e he => h e (List.mem_cons_of_mem _ he)
    unfold lcGo
    rw [h1]
    simp only [bYes, bnd_ok, if_pos, h2, h3, ih, List.map_cons]
theorem lcGo_filter {T : Tg} {cond : Env → Res Bool} {elt : Env → Res D} {own : List Nat} {ρ : Env} (p : D → Bool) (g : D → D) : ∀ (ds : List D), (∀ d ∈ ds, ∃ ρ1 ρ2, bindT T d ρ = some ρ1 ∧ cond ρ1 = .ok (p d) ρ2 ∧ (p d = false → wipeD ρ2 own = ρ) ∧ (p d = true → ∃ ρ3, elt ρ2 = .ok (g d) ρ3 ∧ wipeD ρ3 own = ρ)) →
    lcGo T cond elt own ds ρ = .ok ((ds.filter p).map g) ρ
  | [], _ => rfl
  | d :: ds, h => by
    obtain ⟨ρ1, ρ2, h1, h2, h3, h4⟩ := h d List.mem_cons_self
    have ih := lcGo_filter (T := T) (cond := cond) (elt := elt) (own := own) (ρ := ρ) p g ds fun e he => h e (List.mem_cons_of_mem _ he)
    unfold lcGo
    rw [h1]
    simp only [h2, bnd_ok]
    cases q : p d with
    | false => simp only [h3 q, ih, List.filter_cons, q]; simp
    | true =>
      obtain ⟨ρ3, h5, h6⟩ := h4 q
      simp only [if_pos, h5, bnd_ok, h6, ih, List.filter_cons, q]
      simp
end PD

set_option Elab.async false
set_option linter.all false
set_option maxRecDepth 100000
set_option maxHeartbeats 4000000
/-! PDq: the head: what the top has written, the law's own promise. -/
namespace PD
open PySem PySem.Spec PyProof.Rows L2 RZ

theorem fnT_of {K : PySem.W.Frag} {h : Heap} {mg : Str → Option Value} {x : Str} {st : Stmt} {ps : List Str} {f : Addr} {oc : Value} {od an : Option Addr} {osl : Array (Option Value)} {kV doc pm cdv ct : Value} (KX : K.In h) (G : h.Ns mainGlobals mg)
    (a : PySem.W.nsIn K mainGlobals x = some (some (.ref f))) (l : K.lookup f = some ⟨oc, od, .func (PySem.W.fnOf x x (defArgs st) (defBody st) (defScope st) .none kV doc pm an cdv ct), osl⟩) (c : PySem.W.codeIn K cdv x = true) (k : PySem.W.keepIn K (.ref f) = true)
    (hb : ∀ (kV doc pm : Value) (an : Option Addr) (cdv ct : Value) (us : List Value), us.length = ps.length → bindArgs (PySem.W.fnOf x x (defArgs st) (defBody st) (defScope st) .none kV doc pm an cdv ct) ⟨us, []⟩ = pure (ps.zip us)) : FnT K mg x st ps :=
  ⟨f, _, fun_mk (st := st) l c k, PySem.W.mg_of KX G a, (fun_mk (st := st) l c k).binds hb⟩
structure ClsF (K : PySem.W.Frag) (A : Addr) : Prop where
  hd : PySem.W.hasDictIn K A = true
  ty : PySem.W.typeIn K (.ref A) = some (.type "type")
structure RaiF (K : PySem.W.Frag) (A CW : Addr) : Prop where
  xc : PySem.W.excIn K A [.type "ValueError", .type "Exception", .type "BaseException", .type "object"] "ValueError.__new__" = true
  kc : PySem.W.keepIn K (.ref A) = true
  sb : PySem.W.subIn K (.ref A) (.type "BaseException") = some true
  sw : PySem.W.subIn K (.ref A) (.ref CW) = some true
  sv : PySem.W.subIn K (.ref A) (.type "ValueError") = some true
  hg : PySem.W.findIn K (.ref A) "__getattribute__" = some (some (.builtin "BaseException.__getattribute__"))
  hk : PySem.W.findIn K (.ref A) "__getattr__" = some none
  ha : PySem.W.findIn K (.ref A) "__class__" = some (some (.builtin "object.__class__"))
  hm : PySem.W.mroIn K A (.type "object") = some true
theorem RaiF.ec {K : PySem.W.Frag} {A CW : Addr} (r : RaiF K A CW) (c : ClsF K A) (hn : PySem.W.specialIn K (.builtin "object.__class__") "__get__" = some (some (.builtin "getset_descriptor.__get__"))) (ht : PySem.W.takesIn K (.builtin "object.__class__") = some true) : ExcC K A :=
  ⟨r.hg, r.hk, r.sb, c.hd, r.ha, hn, ht, r.hm⟩
theorem RaiF.xm {K : PySem.W.Frag} {A CW : Addr} (r : RaiF K A CW) (c : ClsF K CW) (sW : PySem.W.subIn K (.ref CW) (.type "BaseException") = some true) : PySem.W.exmOne K (.ref A) (.ref CW) = some true := PySem.W.exm_ref sW c.hd c.ty r.sw
theorem RaiF.kv {K : PySem.W.Frag} {A CW : Addr} (r : RaiF K A CW) : PySem.W.kitOne K (.ref A) (.type "ValueError") = some true := by
  show PySem.W.kitCls K (.ref A) (.type "ValueError") = some true
  show (if PySem.W.kitMeta "ValueError" = true then PySem.W.subIn K (.ref A) (.type "ValueError") else none) = some true
  rw [if_pos (by decide +kernel)]
  exact r.sv
theorem kit_of_sub {K : PySem.W.Frag} {A C : Addr} {b : Bool} (c : ClsF K C) (h : PySem.W.subIn K (.ref A) (.ref C) = some b) (hs : PySem.W.subIn K (.ref A) (.ref A) = some true) : PySem.W.kitOne K (.ref A) (.ref C) = some b := by
  unfold PySem.W.kitOne
  by_cases e : A = C
  · subst e
    rw [hs] at h
    cases h
    rw [if_pos (beq_self_eq_true _)]
  · rw [if_neg (fun q => e (Value.ref.inj (beq_iff_eq.mp q)))]
    have hd := c.hd
    obtain ⟨cd, hc, _⟩ := PySem.W.any_some hd
    show (if ((PySem.W.clsIn K C).isSome && PySem.W.typeIn K (.ref C) == some (.type "type")) = true then PySem.W.subIn K (.ref A) (.ref C) else none) = some b
    rw [if_pos (by rw [hc, c.ty]; rfl)]
    exact h
/-- the law's promise -/
def spL (B : Bs) : Sp := fun vs H Q _ => ∃ (a : Addr) (ns : List Int), vs = [.ref a] ∧ Rm B H a (ns.map V.int) ∧ ns.length ≤ 63 ∧ ∀ H', Q (.bl true) H'
theorem rp_ints {B : Bs} {H : Hp} {W : Wr} : ∀ ns : List Int, RpAll B H W (ns.map V.int) (ns.map .int)
  | [] => .nil
  | n :: ns => .cons (.int n) (rp_ints ns)
theorem spL_F {B : Bs} {Γ : Nat → T} {cl : Nat → Value} {m : List D → Res D} (hΓ : Γ 0 = .fz) (hm : ∀ ns : List Int, ∃ ρ, m [.list (ns.map .int)] = .ok (.bool true) ρ) (vs : List V) (H : Hp) (Q : VK) (E : XK) (h : spL B vs H Q E) : spF B Γ cl none 1 .fz m vs H Q E := by
  obtain ⟨a, ns, rfl, hr, hl, k⟩ := h
  refine ⟨rfl, fun _ => False, fun _ => [], [.list (ns.map .int)], ⟨rfl, fun i d e => ?_, fun _ => List.nodup_nil, fun i j a h => (nomatch h), fun i a h => (nomatch h), fun i a h => (nomatch h), fun a h => h.elim, fun i v e => (nomatch e), fun _ _ => rfl⟩, fun _ _ => rfl, ?_⟩
  · cases i with
    | zero =>
      cases e
      refine ⟨.ref a, rfl, ?_⟩
      show Own B H _ (Γ 0) (.ref a) (.list (ns.map .int)) []
      rw [hΓ]
      refine .fz (.lst (hr.imp (fun r => ⟨r, fun z => ?_⟩) id) ?_ (rp_ints ns))
      · rcases z with ⟨_, h⟩ | h
        · cases h
        · exact h
      · rw [List.length_map]
        show _ ≤ 1000000
        omega
    | succ i => exact (nomatch e)
  · obtain ⟨ρ, e⟩ := hm ns
    rw [e]
    intro H' F' Fl ev fo E' _ v o
    rw [own_bool o]
    exact k H'
theorem walk_PD {l : PySem.W.OpenLaw} {n lev : Nat} {q : Program} {loose : List Str} {XP : (Str → Option Value) → Heap → Prop} {YP : World → Heap → Prop} {d : DefRec} {K : Params → PySem.W.Frag} {x : Str} (hn : l.most = some n) (hn2 : n ≤ 63) (hdf : d.params.defaults = []) (hr : Room lev callerA)
    (hY : ∀ (w : World) (h : Heap), YP w h → (K w.params).In h)
    (F : ∀ (w : World) (mg : Str → Option Value) (fa : Addr) (h : Heap), (K w.params).In h → h.Ns mainGlobals mg → mg d.name = some (.ref fa) →
      ∃ fd : FuncData, (∀ (s : Shared) (u : Value), BindsTo s fd ⟨[u], []⟩ [(x, u)]) ∧ ∀ base : Heap, (K w.params).In base → base.Ns mainGlobals mg → FnOk l.prog w (K w.params) mg base (L2.CX l.prog w) lev fa fd [x] (spL (l.prog, w, K w.params))) :
    PySem.W.WalkO q loose XP YP l.row.toRowW d [] (fun f vs => PySem.call f vs) := by
  refine Att.attach_call hn hdf fun w s₀ s₁ mg mb fa o pm cd doc a vs ns G Y ho hd hcd hmg hobj hints hlen hg => ?_
  have KX := hY w _ Y
  obtain ⟨fd, hb, hF⟩ := F w mg fa _ KX G.T.g hmg
  have hl := hints.length
  refine law_call KX G.T.g G.T.b G.T.builtins G.T.nolimit hg hobj hints (Nat.le_trans hlen (Nat.le_trans hn2 (by decide))) hr hF hb (fun H hO hS => ⟨a, ns, rfl, ?_, Nat.le_trans hlen hn2, fun _ => rfl⟩) fun H e s' h => ?_
  · rcases hS with hS | ⟨o', its, n', hk, hc, hdt, hdd, hz, hv⟩
    · exact .inl hS
    · have e := KX _ _ hk
      rw [hobj] at e
      cases e
      cases hdd
      exact .inr ⟨vs, _, hk, by rw [List.length_map]; exact Nat.le_trans hlen (Nat.le_trans hn2 (by decide)), hv⟩
  · obtain ⟨_, _, _, _, _, _, _, _, _, _, _, _, z⟩ := h
    exact z
end PD

set_option Elab.async false
set_option linter.all false
set_option maxRecDepth 100000
set_option maxHeartbeats 4000000
/-! PDr: tuple(range(n)), list(range(n)), sorted(a tuple), t[::-1]. -/
namespace PD
open PySem PySem.Spec PyProof.Rows L2 PySem.W

/-! ### tuple(range(n)), list(range(n)) -/
def rgTD (d : D) : Option D := (rgItems (.int 0) d).map .tuple
def rgLD (d : D) : Option D := (rgItems (.int 0) d).map .list
def eR1 (gg : D → Option D) (f : Env → Res D) : Env → Res D := fun ρ => bnd (f ρ) fun d ρ1 => ofO (gg d) ρ1
theorem rgV_rp {B : Bs} {H : Hp} {W : Wr} {a b : Int} : RpAll B H W (rgV a b) (rgD a b) := by
  unfold rgV rgD
  generalize (b - a).toNat = n
  generalize hl : List.range n = l
  clear hl
  induction l with
  | nil => exact .nil
  | cons x l ih => exact .cons (.int _) ih
section
variable {X : Cx} {G : Sg} {W : WX} {e : Expr} {f : Env → Res D} {p p' pos pos' : Pos}
theorem dx_tupRg (hc : X.calm = true) (hg : Gl X "tuple") (hm : X.mg "tuple" = none) (hg2 : Gl X "range") (hm2 : X.mg "range" = none) (h : DX X G W .fz e f)
    (hs : starEach [e] X.env = (false, eval e X.env) :: starEach [] X.env := by rfl)
    (hs2 : starEach [.Call (.Name "range" p') [e] [] pos'] X.env = (false, eval (.Call (.Name "range" p') [e] [] pos') X.env) :: starEach [] X.env := by rfl) :
    DX X G W .fz (.Call (.Name "tuple" p) [.Call (.Name "range" p') [e] [] pos'] [] pos) (eR1 rgTD f) :=
  PE.imp (pe_tupRg hc hg hm (prg_1 hg2 hm2 h hs) hs2) fun σ H Q ⟨F, ρ, E, g⟩ => tX_bind E g fun v d ρ1 H1 F1 E1 r g1 _ => by
    cases d with
    | int b =>
      cases r
      unfold rgTD rgItems at g1
      simp only at g1
      split at g1
      · rename_i ok
        obtain ⟨q1, q2, q3, q4, q5⟩ := rgOk_of ok
        refine ⟨b, rfl, ⟨q1, q2, q3, q4, Nat.le_trans q5 (by decide)⟩, fun q hq => ?_⟩
        refine VOut.tup (B := G.B) (W := Wof F1 G.O) (fun v H' Fl k hn nd o => ?_) hq rgV_rp (by rw [rgD_len]; exact q5) (there_W E1)
        obtain ⟨h3, o'⟩ := Go.fin g1 E1 k hn nd o
        exact h3 v o'
      · exact g1.elim
    | _ => exact g1.elim
theorem dx_lstRg (hc : X.calm = true) (hg : Gl X "list") (hm : X.mg "list" = none) (hg2 : Gl X "range") (hm2 : X.mg "range" = none) (h : DX X G W .fz e f)
    (hs : starEach [e] X.env = (false, eval e X.env) :: starEach [] X.env := by rfl)
    (hs2 : starEach [.Call (.Name "range" p') [e] [] pos'] X.env = (false, eval (.Call (.Name "range" p') [e] [] pos') X.env) :: starEach [] X.env := by rfl) :
    DX X G W (.lst .fz) (.Call (.Name "list" p) [.Call (.Name "range" p') [e] [] pos'] [] pos) (eR1 rgLD f) :=
  PE.imp (pe_listRg hc hg hm (prg_1 hg2 hm2 h hs) hs2) fun σ H Q ⟨F, ρ, E, g⟩ => tX_bind E g fun v d ρ1 H1 F1 E1 r g1 _ => by
    cases d with
    | int b =>
      cases r
      unfold rgLD rgItems at g1
      simp only at g1
      split at g1
      · rename_i ok
        obtain ⟨q1, q2, q3, q4, q5⟩ := rgOk_of ok
        refine ⟨b, rfl, ⟨q1, q2, q3, q4, Nat.le_trans q5 (by decide)⟩, fun q hq => ?_⟩
        refine VOut.lst (B := G.B) (W := Wof F1 G.O) (fun v H' Fl k hn nd o => ?_) hq rgV_rp (by rw [rgD_len]; exact q5)
        obtain ⟨h3, o'⟩ := Go.fin g1 E1 k hn nd o
        exact h3 v o'
      · exact g1.elim
    | _ => exact g1.elim
end

/-! ### t[::-1] -/
section
variable {prog : Program} {w : World} {A : Around} {E : Value → Shared → Prop} {s : Shared}
theorem places_rev (n : Nat) : Builtin.Slice.slicePlaces ((n : Int) - 1) (-1) (-1) = n := by
  unfold Builtin.Slice.slicePlaces
  have h1 : ¬ ((-1 : Int) > 0) := by decide
  simp only [h1, if_false]
  split
  · have : ((n : Int) - 1 - -1 - 1) / (- -1) + 1 = n := by
      rw [show (- -1 : Int) = 1 by decide, Int.ediv_one]; omega
    rw [this, Int.toNat_natCast]
  · show (0 : Int).toNat = n
    simp; omega
theorem pick_rev (xs : Array Value) : ((List.range xs.size).filterMap fun (m : Nat) => xs[((xs.size : Int) - 1 + (m : Int) * (-1)).toNat]?).toArray = xs.toList.reverse.toArray := by
  have e : (fun (m : Nat) => xs[((xs.size : Int) - 1 + (m : Int) * (-1)).toNat]?) = (fun i => xs[i]?) ∘ fun m => xs.size - 1 - m := by
    funext m
    show _ = xs[xs.size - 1 - m]?
    have : ((xs.size : Int) - 1 + (m : Int) * (-1)).toNat = xs.size - 1 - m := by omega
    rw [this]
  rw [e, ← List.filterMap_map, PySem.W.krv_range, List.filterMap_reverse, PySem.W.krv_all]
theorem sliceApplied_rev {sl : Addr} {vl vu vs : Value} {n : Nat} {Q : Int × Int × Nat → Shared → Prop} (hs : s.heap.IsSliceOf sl vl vu vs) (pl : IsPart vl none) (pu : IsPart vu none) (ps : IsPart vs (some (-1)))
    (h : Q ((n : Int) - 1, -1, n) s) : wpAny (model prog w) A (Builtin.Slice.sliceApplied (.ref sl) (pure (n : Int))) Q E s := by
  obtain ⟨os, hos, hcs, hds⟩ := id hs
  unfold Builtin.Slice.sliceApplied Builtin.Slice.sliceFields
  refine wpAny_bind (wpAny_bind (wpAny_field hos hds (x := vl) rfl (wpAny_bind (wpAny_field hos hds (x := vu) rfl (wpAny_bind (wpAny_field hos hds (x := vs) rfl (wpAny_pure ?_)))))))
  refine wpAny_bind (HT.slicePart_ ps ?_)
  show wpAny _ _ (if ((-1 : Int) == 0) = true then _ else _) _ _ s
  rw [if_neg (by decide)]
  refine wpAny_bind (HT.slicePart_ pl (wpAny_bind (HT.slicePart_ pu (wpAny_bind (wpAny_pure ?_)))))
  show wpAny _ _ (pure ((n : Int) - 1, (-1 : Int), Builtin.Slice.slicePlaces ((n : Int) - 1) (-1) (-1))) _ _ s
  rw [places_rev]
  exact wpAny_pure h
theorem getItem_tuple_rev {t sl : Addr} {items : Array Value} {vl vu vs : Value} {Q : Value → Shared → Prop} (ht : IsTup s.heap t items) (hs : s.heap.IsSliceOf sl vl vu vs) (pl : IsPart vl none) (pu : IsPart vu none) (ps : IsPart vs (some (-1)))
    (h : Q (.ref s.heap.objs.size) { s with heap := s.heap.push { cls := .type "tuple", data := .seq items.toList.reverse.toArray } })
    (hsz : items.size ≤ sizeLine) : wpAny (model prog w) A (getItem (.ref t) (.ref sl)) Q E s := by
  have htake : sizeOk (.seq items.toList.reverse.toArray) := by
    show items.toList.reverse.toArray.size ≤ sizeLine
    rw [List.size_toArray, List.length_reverse, Array.length_toList]
    exact hsz
  obtain ⟨os, hos, hcs, hds⟩ := id hs
  have hTs : s.TypeIs (.ref sl) "slice" := ⟨os, hos, hcs⟩
  unfold getItem
  try with_reducible refine wpAny_holding ?_
  first | refine wpAny_bind (wpAny_pure ?_) | skip
  refine wpAny_bind (wpAny_sequenceKey ht.typeIs (by decide) ?_)
  refine wpAny_bind (wpAny_callSpecial?_slot (name := Str.ofString "__getitem__") ht.typeIs PyProof.Rows.slot_tuple_getitem
    (wpAny_call_entry PyProof.Rows.slot_tuple_getitem ht.typeIs PyProof.Rows.entry_tuple_getitem ?_ (PyProof.Rows.args_tuple_getitem _ _)))
  show wpAny _ _ (Builtin.Tuple.tupleItemsOf (.ref t) >>= _) _ _ s
  refine wpAny_bind (PyProof.Rows.tupleItemsOf_ ht ?_)
  refine wpAny_bind (wpAny_typeOf hTs ?_)
  rw [if_pos (by decide)]
  refine wpAny_bind (sliceApplied_rev hs pl pu ps ?_)
  have hno : ¬ ((((items.size : Int) - 1) == 0 && (-1 : Int) == 1 && items.size == items.size) = true) := by
    intro q
    rw [Bool.and_eq_true, Bool.and_eq_true] at q
    exact absurd q.1.2 (by decide)
  show wpAny _ _ (if (((items.size : Int) - 1) == 0 && (-1 : Int) == 1 && items.size == items.size) = true then _ else _) _ _ s
  rw [if_neg hno, pick_rev]
  first
    | exact wpAny_bind (m := Builtin.Tuple.tupleExact _) (wpAny_newObj_type (wpAny_pure ⟨_, rfl, wpAny_pure h⟩) htake)
    | exact wpAny_bind (m := Builtin.Tuple.tupleExact _) (wpAny_newObj_type (wpAny_bind (wpAny_pure (wpAny_pure ⟨_, rfl, wpAny_pure h⟩))) htake)
    | exact wpAny_bind (wpAny_bind (m := Builtin.Tuple.tupleExact _) (wpAny_newObj_type (wpAny_pure (wpAny_pure ⟨_, rfl, wpAny_pure h⟩)) htake))
    | exact wpAny_bind (wpAny_bind (m := Builtin.Tuple.tupleExact _) (wpAny_newObj_type (wpAny_pure ⟨_, rfl, wpAny_pure h⟩) htake))
end
def tRevT (K : PySem.W.Frag) (te : TE) : TE := fun σ H Q => te σ H fun x H1 => ∃ a xs, x = .ref a ∧ SqT K H1 a xs ∧ ∀ p, H1 p = none → Q (.ref p) (upd H1 p (.tup xs.reverse))
theorem pe_revT {X : Cx} {e : Expr} {te : TE} {k : Nat} {p1 p2 p3 pos : Pos} (he : PE X e te) : PE X (.Subscript e (.Slice none none (some (.UnaryOp .USub (.Constant (.int 1) k p1) p2)) p3) pos) (tRevT X.K te) := by
  refine ⟨fun pins s σ H Q I h => ?_⟩
  refine Subscript_ (thn (he.run pins s σ H _ I h) fun v s1 ⟨x, H1, I1, r1, q1⟩ => ?_)
  obtain ⟨a, xs, ex, hx, q⟩ := q1
  subst ex
  cases r1
  have hst : PO X (some (.UnaryOp .USub (.Constant (.int 1) k p1) p2)) (tPart (tUn (rU fun i => .int (-i)) (tC (.int 1)))) := po_some (pe_un un_neg pe_int)
  refine wpAny_Slice (thn (po_none.run pins s1 σ H1 (fun o H2 => o = none ∧ H2 = H1) I1 ⟨rfl, rfl⟩) fun vl s2 ⟨l, H2, I2, pl, el, e2⟩ => ?_)
  subst el e2
  refine thn (po_none.run pins s2 σ H2 (fun o H3 => o = none ∧ H3 = H2) I2 ⟨rfl, rfl⟩) fun vu s3 ⟨u, H3, I3, pu, eu, e3⟩ => ?_
  subst eu e3
  refine thn (hst.run pins s3 σ H3 (fun o H4 => o = some (-1) ∧ H4 = H3) I3 ⟨1, rfl, -1, rfl, rfl, rfl⟩) fun vs s4 ⟨o, H4, I4, ps, eo, e4⟩ => ?_
  subst eo e4
  have I5 : Inv X pins σ H4 { s4 with heap := s4.heap.push { cls := .type "slice", data := .fields #[vl, vu, vs] } } := I4.kept (t' := s4.toks) fun b ob q => Heap.get?_push_of_some _ q
  obtain ⟨its, r, ht, hz⟩ := I5.tuple hx
  have hlen := r.length
  show wpAny (model X.prog X.w) X.A (subscriptTail e (.Slice none none (some (.UnaryOp .USub (.Constant (.int 1) k p1) p2)) p3) (.ref a) (.ref s4.heap.objs.size)) (EP X pins σ Q) X.xe { s4 with heap := s4.heap.push { cls := .type "slice", data := .fields #[vl, vu, vs] } }
  refine tail_any (ops := [.ref a, .ref s4.heap.objs.size]) ht.typeIs (PyProof.Rows.slot_tuple_getitem.lookup) ?_ (by with_unfolding_all rfl)
  refine getItem_tuple_rev ht (Heap.IsSliceOf.new _ vl vu vs) pl pu ps ?_ (by rw [List.size_toArray]; omega)
  refine ⟨.ref _, _, I5.laid (t' := s4.toks) (o := .tup xs.reverse) (fun b ob q => Heap.get?_push_of_some _ q) (Nat.le_refl _) ?_, rfl, q _ (I5.hok.fresh (Nat.le_refl _))⟩
  exact ⟨by rw [List.length_reverse]; exact hz, _, r.reverse, IsTup.new _ _⟩
def revTD : D → Option D
  | .tuple ds => some (.tuple ds.reverse)
  | _ => none
theorem dx_revT {X : Cx} {G : Sg} {W : WX} {e : Expr} {f : Env → Res D} {k : Nat} {p1 p2 p3 pos : Pos} (hB : G.B.2.2 = X.K) (h : DX X G W .fz e f) : DX X G W .fz (.Subscript e (.Slice none none (some (.UnaryOp .USub (.Constant (.int 1) k p1) p2)) p3) pos) (eR1 revTD f) :=
  PE.imp (pe_revT h) fun σ H Q ⟨F, ρ, E, g⟩ => tX_bind E g fun v d ρ1 H1 F1 E1 r g1 _ => by
    cases d with
    | tuple ds =>
      cases r with
      | tup rd nw l q =>
        refine ⟨_, _, rfl, .inl rd, fun p hp => ?_⟩
        refine VOut.tup (B := G.B) (W := Wof F1 G.O) (ds := ds.reverse) (fun v H' Fl k hn nd o => ?_) hp q.reverse (by rw [List.length_reverse]; exact l) (there_W E1)
        obtain ⟨h3, o'⟩ := Go.fin g1 E1 k hn nd o
        exact h3 v o'
    | _ => exact g1.elim

/-! ### sorted(a tuple) -/
section
variable {prog : Program} {w : World} {A : Around} {E : Value → Shared → Prop} {s : Shared}
theorem collect_tup {l : Addr} {vs : List Value} {Q : List Value → Shared → Prop} (hl : IsTup s.heap l vs.toArray)
    (h : Q vs { s with heap := (s.heap.push (seqObj "list" #[] 0)).update s.heap.objs.size (Obj.mapSeq (· ++ vs.toArray)) }) (hsz : vs.length ≤ sizeLine) :
    wpAny (model prog w) A (collect (.ref l)) Q E s := by
  obtain ⟨o, ho, hc, n, hd⟩ := id hl
  unfold collect
  refine wpAny_bind (wpAny_runValue (codeAny_builtin PySem.F.entry_proto_collect ?_))
  rw [Around.under_plainId PySem.F.plain_proto_collect _]
  show wpAny _ _ (do again (.builtin "list.__iadd__" ⟨[← newList [], .ref l], []⟩)) _ _ s
  refine wpAny_bind (wpAny_newList (wpAny_pure ⟨Code.quiet_builtin _ (by decide +kernel), codeAny_builtin PySem.F.entry_list_iadd ?_⟩))
  show wpAny _ _ (Builtin.List.listExtendWith (.ref s.heap.objs.size) (.ref l) (.ref s.heap.objs.size)) _ _ { s with heap := s.heap.push (seqObj "list" #[] 0) }
  unfold Builtin.List.listExtendWith
  have ho' : (s.heap.push (seqObj "list" #[] 0)).get? l = some o := Heap.get?_push_of_some _ ho
  refine wpAny_bind (wpAny_typeOf (T := "tuple") ⟨o, ho', hc⟩ ?_)
  have ht : (Value.type "tuple" == Value.type "tuple") = true := by rfl
  rw [if_pos (by rw [ht]; simp)]
  refine wpAny_bind (listItems_at ho' hd ?_)
  refine wpAny_bind (listItems_at (xs := #[]) (n := 0) (Heap.get?_push_size _ rfl) rfl ?_)
  rw [if_neg (by simp)]
  refine wpAny_bind (listUpdate_at (xs := #[]) (n := 0) (Heap.get?_push_size _ rfl) rfl ?_ (Nat.zero_le _) (by show (#[] ++ vs.toArray).size ≤ sizeLine + 1; simp only [Array.size_append, List.size_toArray, List.length_nil]; omega))
  refine wpAny_pure ?_
  show wpAny (model prog w) A (do
      let o ← load s.heap.objs.size
      match o.data with
      | .seq xs _ => pure xs.toList
      | _ => unsupported "internal:collect") Q E { s with heap := (s.heap.push (seqObj "list" #[] 0)).update s.heap.objs.size (Obj.mapSeq (· ++ vs.toArray)) }
  refine wpAny_bind (wpAny_load (get?_update_seq (Heap.get?_push_size _ rfl) _) ?_)
  show wpAny _ _ (pure ((#[] : Array Value) ++ vs.toArray).toList) Q E _
  rw [show ((#[] : Array Value) ++ vs.toArray).toList = vs by simp]
  exact wpAny_pure h
theorem sorted_valsT {κ : PyProof.Rows.KeyKind} {l : Addr} {vs : List Value} {Q : Value → Shared → Prop} (hl : IsTup s.heap l vs.toArray) (S : SortsAt prog w A.in1.in1 { s with heap := sortingHeap (copyHeap s.heap vs) (s.heap.objs.size + 1) vs } κ vs) (hL : vs.length ≤ sizeLine)
    (h : Q (.ref (s.heap.objs.size + 1)) { s with heap := sortedAll s.heap vs (sortVals κ false vs vs).toArray }) : wpAny (model prog w) A (call (.builtin "sorted") [.ref l]) Q E s := by
  refine call_function_entry_kw kind_sorted plain_sorted entry_sorted (args_sorted1 _) ?_
  unfold Builtin.«sorted»
  refine wpAny_bind (m := checkCount "sorted" 1 1 _) (wpAny_pure ?_)
  refine wpAny_bind (collect_tup hl ?_ hL)
  refine wpAny_bind (wpAny_newList ?_ hL)
  have hsz : ((s.heap.push (seqObj "list" #[] 0)).update s.heap.objs.size (Obj.mapSeq (· ++ vs.toArray))).objs.size = s.heap.objs.size + 1 := by
    rw [Heap.size_update, size_push']
  show wpAny _ _ _ _ _ { s with heap := copyHeap s.heap vs }
  rw [hsz]
  refine wpAny_bind (wpAny_holding (wpAny_call_entry_kw slot_list_sort ⟨_, copyHeap_at s.heap vs, rfl⟩ entry_list_sort ?body (args_list_sort _)))
  case body =>
    show wpAny (model prog w) A.in1.in1 (Builtin.«list.sort» ⟨[.ref (s.heap.objs.size + 1)], []⟩) _ _ _
    exact wpAny_mono (list_sort_vals (s := { s with heap := copyHeap s.heap vs }) (P := fun f s' => f = .done (.ret .none) ∧ Q (.ref (s.heap.objs.size + 1)) s') (copyHeap_at s.heap vs) S hL ⟨rfl, h⟩) (fun f s' hf => by
      obtain ⟨rfl, hq⟩ := hf
      exact ⟨_, rfl, wpAny_pure ⟨_, rfl, hq⟩⟩) fun _ _ e => e
end
def rSortDT (B : Bs) : List V → Hp → VK → Prop := fun xs H Q => ∃ (a : Addr) (ys : List V) (ds : List D) (W : Wr), xs = [.ref a] ∧ SqT B.2.2 H a ys ∧ RpAll B H W ys ds ∧ sortOk ds = true ∧ ∀ zs p, RpAll B H W zs (ds.mergeSort dleD) → H p = none → Q (.ref p) (upd H p (.lst zs))
def sortTD : List D → Option D
  | [.tuple ds] => if sortOk ds = true then some (.list (ds.mergeSort dleD)) else none
  | _ => none
theorem cr_sortDT {X : Cx} (hu : X.A.units + 70 < cLine) : CallR X (.builtin "sorted") (rSortDT (BOf X)) := by
  intro pins s σ H vs us Q I r h
  obtain ⟨a, ys, ds, W, rfl, hs, rp, ok, q⟩ := h
  rw [Vals.ref1 r]
  obtain ⟨its, rv, hl, hz⟩ := I.tuple (show SqT X.K H a ys from hs)
  have ok' := ok
  unfold sortOk at ok'
  simp only [Bool.and_eq_true, List.all_eq_true, Bool.or_eq_true] at ok'
  obtain ⟨⟨shp, alk⟩, ht⟩ := ok'
  have lay : ∀ d ∈ ds, d.canLay0 = true := fun d hd => SeqAt.canLay_of_shaped (shp d hd)
  have dpt : ∀ d ∈ ds, d.depth ≤ 64 := fun d hd => of_decide_eq_true (Bool.and_eq_true_iff.mp (shp d hd)).2
  -- the values read as the data, in any heap that keeps all that stands
  have reads : ∀ h' : Heap, (∀ b o, s.heap.get? b = some o → h'.get? b = some o) → PySem.W.EachIs (fun v d => ∃ as, Reads h' v d as) its ds := by
    intro h' kh
    have go : ∀ {ys : List V} {ds : List D} {us : List Value}, (∀ d ∈ ds, d.canLay0 = true) → RpAll (BOf X) H W ys ds → Vals ys us → PySem.W.EachIs (fun v d => ∃ as, Reads h' v d as) us ds := by
      intro ys ds us hl
      induction ds generalizing ys us with
      | nil => intro h r; cases h; cases r; exact .nil
      | cons d ds ih =>
        intro h r
        cases h with
        | cons a b =>
          cases r with
          | cons r1 r2 =>
            obtain ⟨as, e⟩ := Dp.reads I d _ _ (Rp.dp d (hl d List.mem_cons_self) a) r1
            exact .cons ⟨as, Reads.keeps kh e⟩ (ih (fun d hd => hl d (List.mem_cons_of_mem _ hd)) b r2)
    exact go lay rp rv
  have k1 : ∀ b o, s.heap.get? b = some o → (PySem.W.sortingHeap (PySem.W.copyHeap s.heap its) (s.heap.objs.size + 1) its).get? b = some o := fun b o e =>
    PySem.W.sortingHeap_old (Nat.ne_of_lt (Nat.lt_succ_of_lt (Heap.lt_size e))) (PySem.W.copyHeap_old e)
  have E1 := reads _ k1
  have S : PySem.W.SortsAt X.prog X.w X.A.in1.in1 { s with heap := PySem.W.sortingHeap (PySem.W.copyHeap s.heap its) (s.heap.objs.size + 1) its } (PySem.W.dataKind (PySem.W.sortingHeap (PySem.W.copyHeap s.heap its) (s.heap.objs.size + 1) its) ds) its := by
    refine PySem.W.SortsAt.data E1 (fun d hd d' hd' => alk d hd d' hd') ?_ fun d hd => ?_
    · rcases ht with ht | ht
      · left
        intro d hd
        have := ht d hd
        cases d with
        | tuple xs =>
          cases xs with
          | nil => cases this
          | cons x r => exact ⟨x, r, rfl⟩
        | _ => cases this
      · right
        intro d hd
        have := ht d hd
        refine ⟨fun e => ?_, fun xs e => ?_⟩
        · subst e; cases this
        · subst e; cases this
    · have := dpt d hd
      simp only [Around.in1_units]
      omega
  have hl2 := rv.length
  refine sorted_valsT hl S (by omega) ?_
  -- the pairs, sorted
  have ep := PySem.W.sortVals_each (κ := PySem.W.dataKind (PySem.W.sortingHeap (PySem.W.copyHeap s.heap its) (s.heap.objs.size + 1) its) ds) (rev := false) (R := fun u (p : V × D) => RelV p.1 u) (ks := its) (vs := its) (bs := ys.zip ds) (fun p => PySem.W.keyToks p.2) (each_of rp rv) ?_
  · generalize hP : (ys.zip ds).mergeSort _ = ps at ep
    have hperm : ps.Perm (ys.zip ds) := by rw [← hP]; exact List.mergeSort_perm _ _
    have rp2 : RpAll (BOf X) H W (ps.map (·.1)) (ps.map (·.2)) := rp_of_pairs fun p hp => zip_rp rp p (hperm.mem_iff.mp hp)
    have e2 : ps.map (·.2) = ds.mergeSort dleD := by
      rw [← hP]
      have := PySem.W.sort_maps (fun p : V × D => p.2) (r := PySem.W.sortLe (PySem.W.dataKind (PySem.W.sortingHeap (PySem.W.copyHeap s.heap its) (s.heap.objs.size + 1) its) ds).toKeyOrd false fun p : V × D => PySem.W.keyToks p.2) (s := dleD) (l := ys.zip ds) (fun a _ b _ => rfl)
      rw [this, zip_snd rp]
    rw [e2] at rp2
    have vals := EachIs.paired ep fun u p h => h
    generalize PySem.W.sortVals _ _ _ _ = outs at vals ep
    obtain ⟨n, at_⟩ := PyProof.Rows.sortedAll_at s.heap its outs.toArray
    have hlen : (ps.map (·.1)).length ≤ sizeLine := by
      rw [List.length_map, hperm.length_eq, List.length_zip]
      omega
    exact ⟨.ref _, upd H (s.heap.objs.size + 1) (.lst (ps.map (·.1))), I.laid (t' := s.toks) (fun _ _ => PyProof.Rows.sortedAll_old) (Nat.le_succ _) ⟨hlen, outs, n, vals, at_⟩, rfl, q _ _ rp2 (I.hok.fresh (Nat.le_succ _))⟩
  · have go : ∀ {us : List Value} {ys : List V} {es : List D}, (∀ d ∈ es, d ∈ ds) → ys.length = es.length → PySem.W.EachIs (fun v d => ∃ as, Reads (PySem.W.sortingHeap (PySem.W.copyHeap s.heap its) (s.heap.objs.size + 1) its) v d as) us es →
        PySem.W.EachIs (fun v (b : V × D) => (PySem.W.dataKind (PySem.W.sortingHeap (PySem.W.copyHeap s.heap its) (s.heap.objs.size + 1) its) ds).keyOf v = some (PySem.W.keyToks b.2)) us (ys.zip es) := by
      intro us ys es hm hl e
      induction e generalizing ys with
      | nil => simpa using .nil
      | cons x _ ih =>
        cases ys with
        | nil => simp at hl
        | cons y ys =>
          obtain ⟨as, x⟩ := x
          rw [List.zip_cons_cons]
          exact .cons (PySem.W.dataKind_some (fun d hd d' hd' => alk d hd d' hd') (hm _ List.mem_cons_self) x) (ih (fun d hd => hm d (List.mem_cons_of_mem _ hd)) (by simpa using hl))
    exact go (fun d hd => hd) rp.length E1
theorem pv_sortT {B : Bs} : PVn B (rSortDT B) (.lst .fz) sortTD := by
  intro xs ds H W Q z hx hz hW k
  unfold sortTD at hz
  split at hz
  · split at hz
    · rename_i es ok
      cases hz
      obtain ⟨v, rfl, h⟩ := rqAll1 hx
      obtain ⟨a, ys, rfl, ra, na, la, qa⟩ := rq_tup h
      exact ⟨a, ys, es, W, rfl, .inl ra, qa, ok, fun zs p r hp => k.lst hp r (by rw [List.length_mergeSort]; exact la)⟩
    · cases hz
  · cases hz
/-- sorted of a list or a tuple -/
def rSortA (B : Bs) : List V → Hp → VK → Prop := fun xs H Q => rSortD B xs H Q ∨ rSortDT B xs H Q
theorem cr_sortA {X : Cx} (hu : X.A.units + 70 < cLine) : CallR X (.builtin "sorted") (rSortA (BOf X)) := (cr_sortD hu).or (cr_sortDT hu)
def sortAD : List D → Option D
  | [.list ds] => sortD [.list ds]
  | [.tuple ds] => sortTD [.tuple ds]
  | _ => none
theorem pv_sortA {B : Bs} : PVn B (rSortA B) (.lst .fz) sortAD := by
  intro xs ds H W Q z hx hz hW k
  unfold sortAD at hz
  split at hz
  · exact .inl (pv_sort _ _ H W Q z hx hz hW k)
  · exact .inr (pv_sortT _ _ H W Q z hx hz hW k)
  · cases hz
end PD

set_option Elab.async false
set_option linter.all false
set_option maxRecDepth 100000
set_option maxHeartbeats 4000000
namespace U
open PySem PySem.Spec PyProof.Rows L2 RZ PD
def rk : Nat → Nat := fun k => match k with | 0 => 0 | 1 => 10 | 2 => 1 | _ => 3
def Γ_w : Nat → T := fun i => match i with | 1 => .lst .fz | _ => .fz
def body_w (cn : Nat) : PD.Env → SR := (sSeq (sSet 1 (eLst (aCons (oVal (eC (.bool (0 == rk cn)))) (aCons (oVal (eC (.bool (1 == rk cn)))) (aCons (oVal (eC (.bool (2 == rk cn)))) (aCons (oVal (eC (.bool (3 == rk cn)))) aNil)))))) (sSeq (sDrop (eMut 1 extD (aCons (oVal (eLst (aCons (oVal (eC (.bool (4 == rk cn)))) (aCons (oVal (eC (.bool (5 == rk cn)))) (aCons (oVal (eC (.bool (6 == rk cn)))) (aCons (oVal (eC (.bool (7 == rk cn)))) aNil)))))) aNil))) (sSeq (sDrop (eMut 1 extD (aCons (oVal (eLst (aCons (oVal (eC (.bool (8 == rk cn)))) (aCons (oVal (eC (.bool (9 == rk cn)))) (aCons (oVal (eC (.bool (10 == rk cn)))) aNil))))) aNil))) (sSeq (sIf (bOr (bOf (eOp2 neD (oVal (eMt1 "list" cntD (oSlot 1) (aCons (oVal (eC (.bool true))) aNil))) (oVal (eC (.int 1))))) (bNot (bOf (eC (.bool true))))) (sRet (eTup (aCons (oVal (eC (.str "refused"))) (aCons (oVal (eOp1 negD (oVal (eC (.int 1))))) aNil)))) sNil) (sRet (eTup (aCons (oVal (eC (.str "refused"))) (aCons (oVal (eMt1 "list" idxD (oSlot 1) (aCons (oVal (eC (.bool true))) aNil))) aNil))))))))
def whD (cn : Nat) : D := .tuple [.str "refused", .int (rk cn : Nat)]
def Γ__law_cell_at : Nat → T := fun _ => .fz
def body__law_cell_at : PD.Env → SR := (sSeq (sIf (bOf (eOp2 ltD (oVal (eVar 1)) (oVal (eOpN lenD (aCons (oVal (eVar 0)) aNil))))) (sRet (eOp2 ixD (oVal (eVar 0)) (oVal (eVar 1)))) sNil) (sSeq (sIf (bOf (eOp2 eqD (oVal (eVar 0)) (oVal (eLst aNil)))) (sRet (eC (.int 0))) sNil) (sRet (eOp2 addD (oVal (eOp2 mulD (oVal (eOp2 ixD (oVal (eVar 0)) (oVal (eOp2 modD (oVal (eVar 1)) (oVal (eOpN lenD (aCons (oVal (eVar 0)) aNil))))))) (oVal (eC (.int 31))))) (oVal (eVar 1))))))
def m__law_cell_at : List D → Res D := fnM none 2 0 body__law_cell_at
def Γ__law_mixed : Nat → T := fun _ => .fz
def body__law_mixed : PD.Env → SR := (sSeq (sSet 3 (eOp2 modD (oVal (eOp2 addD (oVal (eOp2 addD (oVal (eOp2 mulD (oVal (eCall 2 none m__law_cell_at (aCons (oVal (eVar 0)) (aCons (oVal (eVar 1)) aNil)))) (oVal (eC (.int 1103515245))))) (oVal (eOp2 mulD (oVal (eC (.int 7919))) (oVal (eVar 1)))))) (oVal (eC (.int 12345))))) (oVal (eC (.int 2147483647))))) (sRet (eOp2 modD (oVal (eOp2 modD (oVal (eOp2 modD (oVal (eOp2 powD (oVal (eVar 3)) (oVal (eC (.int 5))))) (oVal (eC (.int 2147483647))))) (oVal (eC (.int 999983))))) (oVal (eVar 2)))))
def m__law_mixed : List D → Res D := fnM none 3 1 body__law_mixed
def Γ__law_draw : Nat → T := fun i => match i with | 1 => .lst .fz | _ => .fz
def body__law_draw : PD.Env → SR := (sSeq (sDrop (eMut 1 appD (aCons (oVal (eC (.int 0))) aNil))) (sRet (eCall 3 none m__law_mixed (aCons (oVal (eVar 0)) (aCons (oVal (eOpN lenD (aCons (oSlot 1) aNil))) (aCons (oVal (eVar 2)) aNil))))))
def m__law_draw : List D → Res D := fnM (some 1) 3 0 body__law_draw
def Γ__law_house : Nat → T := fun i => match i with | 1 => .lst .fz | 5 => .lst .fz | _ => .fz
def body__law_house : PD.Env → SR := (sSeq (sSet 3 (eCall 3 (some (1, 1)) m__law_draw (aCons (oVal (eVar 0)) (aCons (oLend 1) (aCons (oVal (eC (.int 4))) aNil))))) (sSeq (sSet 4 (eOp2 addD (oVal (eC (.int 2))) (oVal (eCall 3 (some (1, 1)) m__law_draw (aCons (oVal (eVar 0)) (aCons (oLend 1) (aCons (oVal (eOp2 subD (oVal (eVar 2)) (oVal (eC (.int 1))))) aNil))))))) (sSeq (sSet 5 (eLst aNil)) (sSeq (sFor (.nm 6) (iRg2 (eC (.int 1)) (eVar 4)) (sFor (.nm 7) (iRg1 (eVar 6)) (sIf (bOr (bOf (eOp2 ltD (oVal (eCall 3 (some (1, 1)) m__law_draw (aCons (oVal (eVar 0)) (aCons (oLend 1) (aCons (oVal (eC (.int 6))) aNil))))) (oVal (eVar 3)))) (bAnd (bOf (eOp2 eqD (oVal (eVar 7)) (oVal (eOp2 subD (oVal (eVar 6)) (oVal (eC (.int 1))))))) (bOf (eOp2 gtD (oVal (eCall 3 (some (1, 1)) m__law_draw (aCons (oVal (eVar 0)) (aCons (oLend 1) (aCons (oVal (eC (.int 5))) aNil))))) (oVal (eC (.int 0))))))) (sDrop (eMut 5 appD (aCons (oVal (eTup (aCons (oVal (eVar 7)) (aCons (oVal (eVar 6)) aNil)))) aNil))) sNil))) (sRet (eTup (aCons (oVal (eVar 4)) (aCons (oVal (eOpN tupleD (aCons (oVal (eSl slD (oVal (eOpN sortD (aCons (oSlot 5) aNil))) pNone (pSome (eC (.int 20))))) aNil))) aNil))))))))
def m__law_house : List D → Res D := fnM (some 1) 3 5 body__law_house
def Γ__law_pick : Nat → T := fun i => match i with | 1 => .lst .fz | _ => .fz
def body__law_pick : PD.Env → SR := (sRet (eOp2 ixD (oVal (eVar 2)) (oVal (eCall 3 (some (1, 1)) m__law_draw (aCons (oVal (eVar 0)) (aCons (oLend 1) (aCons (oVal (eOpN lenD (aCons (oVal (eVar 2)) aNil))) aNil)))))))
def m__law_pick : List D → Res D := fnM (some 1) 3 0 body__law_pick
def Γ__law_odd_house : Nat → T := fun i => match i with | 1 => .lst .fz | _ => .fz
def body__law_odd_house : PD.Env → SR := (sSeq (sSet 2 (eLst (aCons (oVal (eC .none)) (aCons (oVal (eC (.int 5))) (aCons (oVal (eTup aNil)) (aCons (oVal (eTup (aCons (oVal (eC (.int 1))) (aCons (oVal (eTup aNil)) aNil)))) (aCons (oVal (eTup (aCons (oVal (eC (.int 11))) (aCons (oVal (eTup aNil)) aNil)))) (aCons (oVal (eTup (aCons (oVal (eC (.bool true))) (aCons (oVal (eTup aNil)) aNil)))) (aCons (oVal (eTup (aCons (oVal (eC (.int 3))) (aCons (oVal (eLst (aCons (oVal (eTup (aCons (oVal (eC (.int 0))) (aCons (oVal (eC (.int 1))) aNil)))) aNil))) aNil)))) (aCons (oVal (eLst (aCons (oVal (eC (.int 3))) (aCons (oVal (eTup aNil)) aNil)))) (aCons (oVal (eTup (aCons (oVal (eC (.int 3))) (aCons (oVal (eTup (aCons (oVal (eTup (aCons (oVal (eC (.int 1))) (aCons (oVal (eC (.int 0))) aNil)))) aNil))) aNil)))) aNil))))))))))) (sSeq (sSet 2 (eOp2 addD (oVal (eVar 2)) (oVal (eLst (aCons (oVal (eTup (aCons (oVal (eC (.int 3))) (aCons (oVal (eTup (aCons (oVal (eTup (aCons (oVal (eC (.int 0))) (aCons (oVal (eC (.int 1))) aNil)))) (aCons (oVal (eTup (aCons (oVal (eC (.int 0))) (aCons (oVal (eC (.int 1))) aNil)))) aNil)))) aNil)))) (aCons (oVal (eTup (aCons (oVal (eC (.int 3))) (aCons (oVal (eTup (aCons (oVal (eTup (aCons (oVal (eC (.int 1))) (aCons (oVal (eC (.int 2))) aNil)))) (aCons (oVal (eTup (aCons (oVal (eC (.int 0))) (aCons (oVal (eC (.int 1))) aNil)))) aNil)))) aNil)))) (aCons (oVal (eTup (aCons (oVal (eC (.int 3))) (aCons (oVal (eTup (aCons (oVal (eTup (aCons (oVal (eC (.int 0))) (aCons (oVal (eC (.bool true))) aNil)))) aNil))) aNil)))) (aCons (oVal (eC (.str "rooms 3"))) (aCons (oVal (eTup (aCons (oVal (eC (.int 3))) aNil))) aNil))))))))) (sRet (eCall 3 (some (1, 1)) m__law_pick (aCons (oVal (eVar 0)) (aCons (oLend 1) (aCons (oVal (eOp2 addD (oVal (eVar 2)) (oVal (eLst (aCons (oVal (eTup (aCons (oVal (eC (.int 3))) (aCons (oVal (eTup (aCons (oVal (eTup (aCons (oVal (eC (.int 0))) (aCons (oVal (eC (.int 3))) aNil)))) aNil))) aNil)))) (aCons (oVal (eTup (aCons (oVal (eC (.int 3))) (aCons (oVal (eTup (aCons (oVal (eTup (aCons (oVal (eC (.int 0))) (aCons (oVal (eC (.int 0))) aNil)))) aNil))) aNil)))) aNil)))))) aNil)))))))
def m__law_odd_house : List D → Res D := fnM (some 1) 2 1 body__law_odd_house
def Γ__law_odd_watchers : Nat → T := fun i => match i with | 1 => .lst .fz | _ => .fz
def body__law_odd_watchers : PD.Env → SR := (sSeq (sSet 2 (eLst (aCons (oVal (eC .none)) (aCons (oVal (eC (.int 5))) (aCons (oVal (eLst aNil)) (aCons (oVal (eTup (aCons (oVal (eTup (aCons (oVal (eTup (aCons (oVal (eC (.str "room"))) (aCons (oVal (eC (.int 0))) aNil)))) (aCons (oVal (eC (.str "#"))) aNil)))) aNil))) (aCons (oVal (eTup (aCons (oVal (eTup (aCons (oVal (eTup (aCons (oVal (eC (.str "room"))) (aCons (oVal (eC (.int 1))) aNil)))) (aCons (oVal (eC (.str ""))) aNil)))) aNil))) (aCons (oVal (eTup (aCons (oVal (eTup (aCons (oVal (eTup (aCons (oVal (eC (.str "room"))) (aCons (oVal (eC (.int 1))) aNil)))) (aCons (oVal (eC (.str "#######"))) aNil)))) aNil))) aNil)))))))) (sSeq (sSet 2 (eOp2 addD (oVal (eVar 2)) (oVal (eLst (aCons (oVal (eTup (aCons (oVal (eTup (aCons (oVal (eTup (aCons (oVal (eC (.str "room"))) (aCons (oVal (eC (.int 99))) aNil)))) (aCons (oVal (eC (.str "#"))) aNil)))) aNil))) (aCons (oVal (eTup (aCons (oVal (eTup (aCons (oVal (eTup (aCons (oVal (eC (.str "door"))) (aCons (oVal (eC (.int 1))) (aCons (oVal (eC (.int 0))) aNil))))) (aCons (oVal (eC (.str "#"))) aNil)))) aNil))) (aCons (oVal (eOp2 mulD (oVal (eTup (aCons (oVal (eTup (aCons (oVal (eTup (aCons (oVal (eC (.str "room"))) (aCons (oVal (eC (.int 1))) aNil)))) (aCons (oVal (eC (.str "#"))) aNil)))) aNil))) (oVal (eC (.int 2))))) (aCons (oVal (eTup (aCons (oVal (eTup (aCons (oVal (eTup (aCons (oVal (eC (.str "hall"))) (aCons (oVal (eC (.int 1))) aNil)))) (aCons (oVal (eC (.str "#"))) aNil)))) aNil))) aNil)))))))) (sSeq (sSet 2 (eOp2 addD (oVal (eVar 2)) (oVal (eLst (aCons (oVal (eTup (aCons (oVal (eTup (aCons (oVal (eTup (aCons (oVal (eC (.str "room"))) (aCons (oVal (eC (.int 1))) aNil)))) (aCons (oVal (eC .none)) aNil)))) aNil))) (aCons (oVal (eTup (aCons (oVal (eTup (aCons (oVal (eTup (aCons (oVal (eC (.str "room"))) (aCons (oVal (eC (.bool true))) aNil)))) (aCons (oVal (eC (.str "#"))) aNil)))) aNil))) (aCons (oVal (eTup (aCons (oVal (eTup (aCons (oVal (eC (.str "room"))) (aCons (oVal (eC (.int 1))) aNil)))) (aCons (oVal (eC (.str "#"))) aNil)))) (aCons (oVal (eTup (aCons (oVal (eTup (aCons (oVal (eTup (aCons (oVal (eC (.str "room"))) (aCons (oVal (eC (.int 1))) aNil)))) (aCons (oVal (eC (.str "x"))) aNil)))) aNil))) aNil)))))))) (sRet (eCall 3 (some (1, 1)) m__law_pick (aCons (oVal (eVar 0)) (aCons (oLend 1) (aCons (oVal (eVar 2)) aNil))))))))
def m__law_odd_watchers : List D → Res D := fnM (some 1) 2 1 body__law_odd_watchers
def Γ_is_whole : Nat → T := fun _ => .fz
def body_is_whole : PD.Env → SR := (sRet (eAnd (eOp1 (isiD .int) (oVal (eVar 0))) (eAnd (eNot (eOp1 (isiD .bool) (oVal (eVar 0)))) (eChain leD leD (oVal (eVar 1)) (oVal (eVar 0)) (oVal (eVar 2))))))
def m_is_whole : List D → Res D := fnM none 3 0 body_is_whole
def Γ_is_rising : Nat → T := fun _ => .fz
def body_is_rising : PD.Env → SR := (sRet (eOpN allD (aCons (oVal (eLc (iZipD (eVar 0) (eSl slD (oVal (eVar 0)) (pSome (eC (.int 1))) pNone)) (.tp [(.nm 1), (.nm 2)]) bYes (eOp2 ltD (oVal (eVar 1)) (oVal (eVar 2))) [1, 2])) aNil)))
def m_is_rising : List D → Res D := fnM none 1 2 body_is_rising
def Γ_is_door : Nat → T := fun _ => .fz
def body_is_door : PD.Env → SR := (sSeq (sIf (bOr (bNot (bOf (eOp1 (isiD .tuple) (oVal (eVar 1))))) (bOr (bOf (eOp2 neD (oVal (eOpN lenD (aCons (oVal (eVar 1)) aNil))) (oVal (eC (.int 2))))) (bNot (bOf (eOpN allD (aCons (oVal (eLc (iOf (eVar 1)) (.nm 2) bYes (eCall 3 none m_is_whole (aCons (oVal (eVar 2)) (aCons (oVal (eC (.int 0))) (aCons (oVal (eOp2 subD (oVal (eVar 0)) (oVal (eC (.int 1))))) aNil)))) [2])) aNil)))))) (sRet (eC (.bool false))) sNil) (sRet (eOp2 ltD (oVal (eOp2 ixD (oVal (eVar 1)) (oVal (eC (.int 0))))) (oVal (eOp2 ixD (oVal (eVar 1)) (oVal (eC (.int 1))))))))
def m_is_door : List D → Res D := fnM none 2 1 body_is_door
def Γ_is_house : Nat → T := fun _ => .fz
def body_is_house : PD.Env → SR := (sSeq (sIf (bOr (bNot (bOf (eOp1 (isiD .tuple) (oVal (eVar 0))))) (bOr (bOf (eOp2 neD (oVal (eOpN lenD (aCons (oVal (eVar 0)) aNil))) (oVal (eC (.int 2))))) (bNot (bOf (eCall 3 none m_is_whole (aCons (oVal (eOp2 ixD (oVal (eVar 0)) (oVal (eC (.int 0))))) (aCons (oVal (eC (.int 2))) (aCons (oVal (eC (.int 10))) aNil)))))))) (sRet (eC (.bool false))) sNil) (sSeq (sIf (bOr (bNot (bOf (eOp1 (isiD .tuple) (oVal (eOp2 ixD (oVal (eVar 0)) (oVal (eC (.int 1)))))))) (bOf (eOp2 gtD (oVal (eOpN lenD (aCons (oVal (eOp2 ixD (oVal (eVar 0)) (oVal (eC (.int 1))))) aNil))) (oVal (eC (.int 20)))))) (sRet (eC (.bool false))) sNil) (sRet (eAnd (eOpN allD (aCons (oVal (eLc (iOf (eOp2 ixD (oVal (eVar 0)) (oVal (eC (.int 1))))) (.nm 1) bYes (eCall 2 none m_is_door (aCons (oVal (eOp2 ixD (oVal (eVar 0)) (oVal (eC (.int 0))))) (aCons (oVal (eVar 1)) aNil))) [1])) aNil)) (eCall 1 none m_is_rising (aCons (oVal (eOp2 ixD (oVal (eVar 0)) (oVal (eC (.int 1))))) aNil))))))
def m_is_house : List D → Res D := fnM none 1 1 body_is_house
def Γ_need_house : Nat → T := fun _ => .fz
def body_need_house : PD.Env → SR := (sIf (bNot (bOf (eCall 1 none m_is_house (aCons (oVal (eVar 0)) aNil)))) (sExc 0) sNil)
def m_need_house : List D → Res D := fnM none 1 0 body_need_house
def Γ_need_names : Nat → T := fun _ => .fz
def body_need_names : PD.Env → SR := (sSeq (sIf (bOr (bNot (bOf (eOp1 (isiD .tuple) (oVal (eVar 1))))) (bNot (bOf (eOpN allD (aCons (oVal (eLc (iOf (eVar 1)) (.nm 2) bYes (eCall 3 none m_is_whole (aCons (oVal (eVar 2)) (aCons (oVal (eC (.int 0))) (aCons (oVal (eOp2 subD (oVal (eOp2 ixD (oVal (eVar 0)) (oVal (eC (.int 0))))) (oVal (eC (.int 1))))) aNil)))) [2])) aNil))))) (sExc 1) sNil) (sIf (bOr (bOf (eOp2 neD (oVal (eOpN sortAD (aCons (oVal (eVar 1)) aNil))) (oVal (eR1 rgLD (eOp2 ixD (oVal (eVar 0)) (oVal (eC (.int 0)))))))) (bOf (eOp2 neD (oVal (eOp2 ixD (oVal (eVar 1)) (oVal (eC (.int 0))))) (oVal (eC (.int 0)))))) (sExc 1) sNil))
def m_need_names : List D → Res D := fnM none 2 1 body_need_names
def Γ_called : Nat → T := fun _ => .fz
def body_called : PD.Env → SR := (sSeq (sIf (bOf (eOp2 eqD (oVal (eOp2 ixD (oVal (eVar 0)) (oVal (eC (.int 0))))) (oVal (eC (.str "room"))))) (sRet (eTup (aCons (oVal (eC (.str "room"))) (aCons (oVal (eOp2 ixD (oVal (eVar 1)) (oVal (eOp2 ixD (oVal (eVar 0)) (oVal (eC (.int 1))))))) aNil)))) sNil) (sSeq (sSet 2 (eOpN sortD (aCons (oVal (eLc (iOf (eSl slD (oVal (eVar 0)) (pSome (eOp1 negD (oVal (eC (.int 2))))) pNone)) (.nm 3) bYes (eOp2 ixD (oVal (eVar 1)) (oVal (eVar 3))) [3])) aNil))) (sRet (eOp2 addD (oVal (eSl slD (oVal (eVar 0)) pNone (pSome (eOp1 negD (oVal (eC (.int 2))))))) (oVal (eTup (aCons (oVal (eOp2 ixD (oVal (eVar 2)) (oVal (eC (.int 0))))) (aCons (oVal (eOp2 ixD (oVal (eVar 2)) (oVal (eC (.int 1))))) aNil))))))))
def m_called : List D → Res D := fnM none 2 2 body_called
def Γ_renamed : Nat → T := fun _ => .fz
def body_renamed : PD.Env → SR := (sSeq (sDrop (eCall 1 none m_need_house (aCons (oVal (eVar 0)) aNil))) (sSeq (sDrop (eCall 2 none m_need_names (aCons (oVal (eVar 0)) (aCons (oVal (eVar 1)) aNil)))) (sRet (eTup (aCons (oVal (eOp2 ixD (oVal (eVar 0)) (oVal (eC (.int 0))))) (aCons (oVal (eOpN tupleD (aCons (oVal (eOpN sortD (aCons (oVal (eLc (iOf (eOp2 ixD (oVal (eVar 0)) (oVal (eC (.int 1))))) (.nm 2) bYes (eCall 2 none m_called (aCons (oVal (eVar 2)) (aCons (oVal (eVar 1)) aNil))) [2])) aNil))) aNil))) aNil))))))
def m_renamed : List D → Res D := fnM none 2 1 body_renamed
def Γ_all_spots : Nat → T := fun _ => .fz
def body_all_spots : PD.Env → SR := (sRet (eOp2 addD (oVal (eLc (iOf (eOp2 ixD (oVal (eVar 0)) (oVal (eC (.int 1))))) (.nm 1) bYes (eOp2 addD (oVal (eTup (aCons (oVal (eC (.str "door"))) aNil))) (oVal (eVar 1))) [1])) (oVal (eLc (iRg2 (eC (.int 1)) (eOp2 ixD (oVal (eVar 0)) (oVal (eC (.int 0))))) (.nm 2) bYes (eTup (aCons (oVal (eC (.str "room"))) (aCons (oVal (eVar 2)) aNil))) [2]))))
def m_all_spots : List D → Res D := fnM none 1 2 body_all_spots
def Γ_is_spot : Nat → T := fun _ => .fz
def body_is_spot : PD.Env → SR := (sSeq (sIf (bOr (bNot (bOf (eOp1 (isiD .tuple) (oVal (eVar 1))))) (bOr (bOf (eOp2 eqD (oVal (eVar 1)) (oVal (eTup aNil)))) (bNot (bOf (eOp1 (isiD .str) (oVal (eOp2 ixD (oVal (eVar 1)) (oVal (eC (.int 0)))))))))) (sRet (eC (.bool false))) sNil) (sSeq (sIf (bNot (bOf (eOpN allD (aCons (oVal (eLc (iOf (eSl slD (oVal (eVar 1)) (pSome (eC (.int 1))) pNone)) (.nm 2) bYes (eCall 3 none m_is_whole (aCons (oVal (eVar 2)) (aCons (oVal (eC (.int 0))) (aCons (oVal (eOp2 ixD (oVal (eVar 0)) (oVal (eC (.int 0))))) aNil)))) [2])) aNil)))) (sRet (eC (.bool false))) sNil) (sRet (eOp2 inD (oVal (eVar 1)) (oVal (eCall 1 none m_all_spots (aCons (oVal (eVar 0)) aNil)))))))
def m_is_spot : List D → Res D := fnM none 2 1 body_is_spot
def Γ_is_watcher : Nat → T := fun _ => .fz
def body_is_watcher : PD.Env → SR := (sSeq (sIf (bOr (bNot (bOf (eOp1 (isiD .tuple) (oVal (eVar 1))))) (bOr (bOf (eOp2 neD (oVal (eOpN lenD (aCons (oVal (eVar 1)) aNil))) (oVal (eC (.int 2))))) (bNot (bOf (eCall 2 none m_is_spot (aCons (oVal (eVar 0)) (aCons (oVal (eOp2 ixD (oVal (eVar 1)) (oVal (eC (.int 0))))) aNil))))))) (sRet (eC (.bool false))) sNil) (sRet (eAnd (eOp1 (isiD .str) (oVal (eOp2 ixD (oVal (eVar 1)) (oVal (eC (.int 1)))))) (eAnd (eChain leD leD (oVal (eC (.int 1))) (oVal (eOpN lenD (aCons (oVal (eOp2 ixD (oVal (eVar 1)) (oVal (eC (.int 1))))) aNil))) (oVal (eC (.int 6)))) (eOpN allD (aCons (oVal (eLc (iOf (eOp2 ixD (oVal (eVar 1)) (oVal (eC (.int 1))))) (.nm 2) bYes (eOp2 inD (oVal (eVar 2)) (oVal (eC (.str "#.")))) [2])) aNil))))))
def m_is_watcher : List D → Res D := fnM none 2 1 body_is_watcher
def Γ_are_watching : Nat → T := fun _ => .fz
def body_are_watching : PD.Env → SR := (sSeq (sIf (bOr (bNot (bOf (eOp1 (isiD .tuple) (oVal (eVar 1))))) (bOr (bOf (eOp2 gtD (oVal (eOpN lenD (aCons (oVal (eVar 1)) aNil))) (oVal (eC (.int 12))))) (bNot (bOf (eOpN allD (aCons (oVal (eLc (iOf (eVar 1)) (.nm 2) bYes (eCall 2 none m_is_watcher (aCons (oVal (eVar 0)) (aCons (oVal (eVar 2)) aNil))) [2])) aNil)))))) (sRet (eC (.bool false))) sNil) (sRet (eCall 1 none m_is_rising (aCons (oVal (eVar 1)) aNil))))
def m_are_watching : List D → Res D := fnM none 2 1 body_are_watching
def Γ_need_watchers : Nat → T := fun _ => .fz
def body_need_watchers : PD.Env → SR := (sSeq (sDrop (eCall 1 none m_need_house (aCons (oVal (eVar 0)) aNil))) (sIf (bNot (bOf (eCall 2 none m_are_watching (aCons (oVal (eVar 0)) (aCons (oVal (eVar 1)) aNil))))) (sExc 2) sNil))
def m_need_watchers : List D → Res D := fnM none 2 0 body_need_watchers
def Γ_renamed_watchers : Nat → T := fun _ => .fz
def body_renamed_watchers : PD.Env → SR := (sSeq (sDrop (eCall 2 none m_need_watchers (aCons (oVal (eVar 0)) (aCons (oVal (eVar 1)) aNil)))) (sSeq (sDrop (eCall 2 none m_need_names (aCons (oVal (eVar 0)) (aCons (oVal (eVar 2)) aNil)))) (sRet (eOpN tupleD (aCons (oVal (eOpN sortD (aCons (oVal (eLc (iOf (eVar 1)) (.tp [(.nm 3), (.nm 4)]) bYes (eTup (aCons (oVal (eCall 2 none m_called (aCons (oVal (eVar 3)) (aCons (oVal (eVar 2)) aNil)))) (aCons (oVal (eVar 4)) aNil))) [3, 4])) aNil))) aNil)))))
def m_renamed_watchers : List D → Res D := fnM none 3 2 body_renamed_watchers
def Γ_beside : Nat → T := fun _ => .fz
def body_beside : PD.Env → SR := (sSeq (sSet 2 (eOp2 addD (oVal (eLc (iOf (eOp2 ixD (oVal (eVar 0)) (oVal (eC (.int 1))))) (.tp [(.nm 3), (.nm 4)]) (bOf (eOp2 eqD (oVal (eVar 3)) (oVal (eVar 1)))) (eVar 4) [3, 4])) (oVal (eLc (iOf (eOp2 ixD (oVal (eVar 0)) (oVal (eC (.int 1))))) (.tp [(.nm 3), (.nm 4)]) (bOf (eOp2 eqD (oVal (eVar 4)) (oVal (eVar 1)))) (eVar 3) [3, 4])))) (sRet (eOpN sortD (aCons (oVal (eVar 2)) aNil))))
def m_beside : List D → Res D := fnM none 2 3 body_beside
def Γ_is_way : Nat → T := fun _ => .fz
def body_is_way : PD.Env → SR := (sSeq (sIf (bOr (bNot (bOf (eOp1 (isiD .tuple) (oVal (eVar 1))))) (bNot (bOf (eChain leD leD (oVal (eC (.int 1))) (oVal (eOpN lenD (aCons (oVal (eVar 1)) aNil))) (oVal (eC (.int 40))))))) (sRet (eC (.bool false))) sNil) (sSeq (sIf (bOr (bNot (bOf (eOpN allD (aCons (oVal (eLc (iOf (eVar 1)) (.nm 2) bYes (eCall 3 none m_is_whole (aCons (oVal (eVar 2)) (aCons (oVal (eC (.int 0))) (aCons (oVal (eOp2 subD (oVal (eOp2 ixD (oVal (eVar 0)) (oVal (eC (.int 0))))) (oVal (eC (.int 1))))) aNil)))) [2])) aNil)))) (bOf (eOp2 neD (oVal (eOp2 ixD (oVal (eVar 1)) (oVal (eC (.int 0))))) (oVal (eC (.int 0)))))) (sRet (eC (.bool false))) sNil) (sRet (eOpN allD (aCons (oVal (eLc (iZipD (eVar 1) (eSl slD (oVal (eVar 1)) (pSome (eC (.int 1))) pNone)) (.tp [(.nm 3), (.nm 4)]) bYes (eOr (eOp2 eqD (oVal (eVar 3)) (oVal (eVar 4))) (eOp2 inD (oVal (eVar 4)) (oVal (eCall 2 none m_beside (aCons (oVal (eVar 0)) (aCons (oVal (eVar 3)) aNil)))))) [3, 4])) aNil)))))
def m_is_way : List D → Res D := fnM none 2 3 body_is_way
def Γ_renamed_way : Nat → T := fun _ => .fz
def body_renamed_way : PD.Env → SR := (sSeq (sDrop (eCall 1 none m_need_house (aCons (oVal (eVar 0)) aNil))) (sSeq (sIf (bNot (bOf (eCall 2 none m_is_way (aCons (oVal (eVar 0)) (aCons (oVal (eVar 1)) aNil))))) (sExc 3) sNil) (sSeq (sDrop (eCall 2 none m_need_names (aCons (oVal (eVar 0)) (aCons (oVal (eVar 2)) aNil)))) (sRet (eOpN tupleD (aCons (oVal (eLc (iOf (eVar 1)) (.nm 3) bYes (eOp2 ixD (oVal (eVar 2)) (oVal (eVar 3))) [3])) aNil))))))
def m_renamed_way : List D → Res D := fnM none 3 1 body_renamed_way
def Γ__law_ask : Nat → T := fun _ => .fz
def body__law_ask : PD.Env → SR := (sTry 4 (fun _ => true) (sSeq (sIf (bOf (eOp2 eqD (oVal (eVar 0)) (oVal (eC (.int 0))))) (sRet (eCall 2 none m_renamed (aCons (oVal (eVar 1)) (aCons (oVal (eVar 3)) aNil)))) sNil) (sRet (eCallIx 2 3 (fun i => match i with | 0 => m_renamed_watchers | _ => m_renamed_way) (oVal (eOp2 subD (oVal (eVar 0)) (oVal (eC (.int 1))))) (aCons (oVal (eVar 1)) (aCons (oVal (eVar 2)) (aCons (oVal (eVar 3)) aNil)))))) (sWh whD))
def m__law_ask : List D → Res D := fnM none 4 1 body__law_ask
def Γ_law : Nat → T := fun i => match i with | 1 => .lst .fz | 9 => .lst .fz | _ => .fz
def body_law : PD.Env → SR := (sSeq (sSet 1 (eLst aNil)) (sSeq (sSet 2 (eCall 3 (some (1, 1)) m__law_house (aCons (oVal (eVar 0)) (aCons (oLend 1) (aCons (oVal (eC (.int 6))) aNil))))) (sSeq (sAsg (.tp [(.nm 3), (.nm 4)]) (eTup (aCons (oVal (eCall 2 (some (1, 1)) m__law_odd_house (aCons (oVal (eVar 0)) (aCons (oLend 1) aNil)))) (aCons (oVal (eCall 2 (some (1, 1)) m__law_odd_watchers (aCons (oVal (eVar 0)) (aCons (oLend 1) aNil)))) aNil)))) (sSeq (sSet 5 (eCall 3 (some (1, 1)) m__law_pick (aCons (oVal (eVar 0)) (aCons (oLend 1) (aCons (oVal (eLst (aCons (oVal (eC .none)) (aCons (oVal (eTup aNil)) (aCons (oVal (eLst (aCons (oVal (eC (.int 0))) aNil))) (aCons (oVal (eTup (aCons (oVal (eC (.int 1))) aNil))) (aCons (oVal (eTup (aCons (oVal (eC (.int 0))) (aCons (oVal (eC (.int 99))) aNil)))) (aCons (oVal (eTup (aCons (oVal (eC (.int 0))) (aCons (oVal (eOp1 negD (oVal (eC (.int 1))))) aNil)))) (aCons (oVal (eTup (aCons (oVal (eC (.int 0))) (aCons (oVal (eC (.bool true))) aNil)))) (aCons (oVal (eOp2 mulD (oVal (eTup (aCons (oVal (eC (.int 0))) aNil))) (oVal (eC (.int 41))))) (aCons (oVal (eC (.str "0"))) aNil))))))))))) aNil))))) (sSeq (sSet 6 (eR1 rgTD (eOp2 ixD (oVal (eVar 2)) (oVal (eC (.int 0)))))) (sSeq (sSet 7 (eLst (aCons (oVal (eC .none)) (aCons (oVal (eSl slD (oVal (eVar 6)) (pSome (eC (.int 1))) pNone)) (aCons (oVal (eOp2 addD (oVal (eVar 6)) (oVal (eTup (aCons (oVal (eC (.int 0))) aNil))))) (aCons (oVal (eOpN listD (aCons (oVal (eVar 6)) aNil))) (aCons (oVal (eR1 revTD (eVar 6))) aNil))))))) (sSeq (sSet 7 (eCall 3 (some (1, 1)) m__law_pick (aCons (oVal (eVar 0)) (aCons (oLend 1) (aCons (oVal (eOp2 addD (oVal (eVar 7)) (oVal (eLst (aCons (oVal (eOp2 addD (oVal (eSl slD (oVal (eVar 6)) pNone (pSome (eOp1 negD (oVal (eC (.int 1))))))) (oVal (eTup (aCons (oVal (eOp2 ixD (oVal (eVar 2)) (oVal (eC (.int 0))))) aNil))))) (aCons (oVal (eOp2 addD (oVal (eSl slD (oVal (eVar 6)) pNone (pSome (eOp1 negD (oVal (eC (.int 1))))))) (oVal (eTup (aCons (oVal (eC .none)) aNil))))) aNil)))))) aNil))))) (sSeq (sIf (bOf (eOp2 neD (oVal (eLc (iRg1 (eC (.int 3))) (.nm 8) bYes (eCall 4 none m__law_ask (aCons (oVal (eVar 8)) (aCons (oVal (eVar 3)) (aCons (oVal (eVar 4)) (aCons (oVal (eVar 7)) aNil))))) [8])) (oVal (eOp2 mulD (oVal (eLst (aCons (oVal (eTup (aCons (oVal (eC (.str "refused"))) (aCons (oVal (eC (.int 0))) aNil)))) aNil))) (oVal (eC (.int 3))))))) (sRet (eC (.bool false))) sNil) (sSeq (sIf (bOr (bOf (eOp2 neD (oVal (eCall 4 none m__law_ask (aCons (oVal (eC (.int 1))) (aCons (oVal (eVar 2)) (aCons (oVal (eVar 4)) (aCons (oVal (eVar 7)) aNil)))))) (oVal (eTup (aCons (oVal (eC (.str "refused"))) (aCons (oVal (eC (.int 1))) aNil)))))) (bOf (eOp2 neD (oVal (eCall 4 none m__law_ask (aCons (oVal (eC (.int 2))) (aCons (oVal (eVar 2)) (aCons (oVal (eVar 5)) (aCons (oVal (eVar 7)) aNil)))))) (oVal (eTup (aCons (oVal (eC (.str "refused"))) (aCons (oVal (eC (.int 3))) aNil))))))) (sRet (eC (.bool false))) sNil) (sSeq (sSet 9 (eLst (aCons (oVal (eCall 4 none m__law_ask (aCons (oVal (eC (.int 0))) (aCons (oVal (eVar 2)) (aCons (oVal (eC .none)) (aCons (oVal (eVar 7)) aNil)))))) (aCons (oVal (eCall 4 none m__law_ask (aCons (oVal (eC (.int 1))) (aCons (oVal (eVar 2)) (aCons (oVal (eTup aNil)) (aCons (oVal (eVar 7)) aNil)))))) aNil)))) (sSeq (sDrop (eMut 9 appD (aCons (oVal (eCall 4 none m__law_ask (aCons (oVal (eC (.int 2))) (aCons (oVal (eVar 2)) (aCons (oVal (eTup (aCons (oVal (eC (.int 0))) aNil))) (aCons (oVal (eVar 7)) aNil)))))) aNil))) (sSeq (sIf (bOf (eOp2 neD (oSlot 9) (oVal (eOp2 mulD (oVal (eLst (aCons (oVal (eTup (aCons (oVal (eC (.str "refused"))) (aCons (oVal (eC (.int 10))) aNil)))) aNil))) (oVal (eC (.int 3))))))) (sRet (eC (.bool false))) sNil) (sRet (eAnd (eOp2 eqD (oVal (eCall 4 none m__law_ask (aCons (oVal (eC (.int 0))) (aCons (oVal (eVar 2)) (aCons (oVal (eC .none)) (aCons (oVal (eVar 6)) aNil)))))) (oVal (eVar 2))) (eOp2 eqD (oVal (eCall 4 none m__law_ask (aCons (oVal (eC (.int 2))) (aCons (oVal (eVar 2)) (aCons (oVal (eTup (aCons (oVal (eC (.int 0))) (aCons (oVal (eC (.int 0))) aNil)))) (aCons (oVal (eVar 6)) aNil)))))) (oVal (eTup (aCons (oVal (eC (.int 0))) (aCons (oVal (eC (.int 0))) aNil)))))))))))))))))))
def m_law : List D → Res D := fnM none 1 9 body_law
end U

set_option maxRecDepth 100000
set_option linter.all false
namespace U
open PySem PySem.Spec PyProof.Rows L2 RZ PD
theorem is_whole_ok (d : D) (lo hi : Int) (nd : ∀ es, d ≠ .dict es) : m_is_whole [d, .int lo, .int hi] = .ok (.bool (wh d lo hi)) [none, none, none] := by
  cases d with
  | dict es => exact absurd rfl (nd es)
  | int i =>
    simp [m_is_whole, fnM, outE, body_is_whole, isiD, isi, leD_int, wh]
    by_cases h : lo ≤ i <;> simp [h]
  | _ => simp [m_is_whole, fnM, outE, body_is_whole, isiD, isi, wh]
abbrev scr (ns : List Int) : D := .list (ns.map .int)
theorem scr_at {ns : List Int} {k : Int} (h0 : 0 ≤ k) (h1 : k < ns.length) : ∃ v, ixD (scr ns) (.int k) = some (.int v) := by
  have hk : k.toNat < ns.length := by omega
  refine ⟨ns[k.toNat], ?_⟩
  simp [ixD, L2.atI, ixN, h0, h1, hk]
theorem scr_shp (ns : List Int) : shp 1 (scr ns) = true := by
  simp [shp, shpAll_iff]
theorem eqv_nil (ns : List Int) : PyData.eqv (scr ns) (.list []) = ns.isEmpty := by
  cases ns <;> simp [PyData.eqv, PyData.eqvAll]
theorem cell_ok (ns : List Int) (k : Int) (h0 : 0 ≤ k) : ∃ v, m__law_cell_at [scr ns, .int k] = .ok (.int v) [none, none] := by
  by_cases h : k < ns.length
  · obtain ⟨v, hv⟩ := scr_at h0 h
    refine ⟨v, ?_⟩
    simp [m__law_cell_at, fnM, outE, body__law_cell_at, lenD, derefs, ltD_int, boolD, h, hv]
  · have e := eqD_shp (n := 1) (m := 1) (scr_shp ns) (show shp 1 (.list []) = true from rfl)
    rw [eqv_nil] at e
    cases hn : ns with
    | nil =>
      subst hn
      refine ⟨0, ?_⟩
      have h' : ¬ k < 0 := by omega
      simp [m__law_cell_at, fnM, outE, body__law_cell_at, lenD, derefs, ltD_int, boolD, h', valsOf]
      simp at e
      simp [e]
    | cons a r =>
      have hp : (0 : Int) < (ns.length : Int) := by rw [hn]; simp
      have hp' : 0 < ns.length := by omega
      have q1 : 0 ≤ k % (ns.length : Int) := Int.emod_nonneg _ (by omega)
      have q2 : k % (ns.length : Int) < ns.length := Int.emod_lt_of_pos _ hp
      obtain ⟨v, hv⟩ := scr_at q1 q2
      refine ⟨v * 31 + k, ?_⟩
      rw [← hn]
      have e' : ns.isEmpty = false := by rw [hn]; rfl
      rw [e'] at e
      simp [m__law_cell_at, fnM, outE, body__law_cell_at, lenD, derefs, ltD_int, boolD, h, valsOf, e, modD, hp', hv, mulD, smallI, addD]
@[simp] theorem addD_int (a b : Int) : addD (.int a) (.int b) = some (.int (a + b)) := rfl
@[simp] theorem subD_int (a b : Int) : subD (.int a) (.int b) = some (.int (a - b)) := rfl
theorem mulD_r (a b : Int) (h : smallI b = true) : mulD (.int a) (.int b) = some (.int (a * b)) := by simp [mulD, h]
theorem mulD_l (a b : Int) (h : smallI a = true) : mulD (.int a) (.int b) = some (.int (a * b)) := by simp [mulD, h]
theorem modD_int (a b : Int) (h : 0 < b) : modD (.int a) (.int b) = some (.int (a % b)) := by simp [modD, h]
theorem powD_int (a b : Int) (h : 0 ≤ b ∧ b ≤ 1000 ∧ a.natAbs < 2 ^ 64) : powD (.int a) (.int b) = some (.int (a ^ b.toNat)) := by simp [powD, h]
theorem mixed_ok (ns : List Int) (k n : Int) (h0 : 0 ≤ k) (hn : 0 < n) : ∃ r, m__law_mixed [scr ns, .int k, .int n] = .ok (.int r) [none, none, none] ∧ 0 ≤ r ∧ r < n := by
  obtain ⟨v, hv⟩ := cell_ok ns k h0
  have hq1 : 0 ≤ (v * 1103515245 + 7919 * k + 12345) % 2147483647 := Int.emod_nonneg _ (by decide)
  have hq2 : (v * 1103515245 + 7919 * k + 12345) % 2147483647 < 2147483647 := Int.emod_lt_of_pos _ (by decide)
  have hp : ((v * 1103515245 + 7919 * k + 12345) % 2147483647).natAbs < 2 ^ 64 := by omega
  refine ⟨((v * 1103515245 + 7919 * k + 12345) % 2147483647) ^ 5 % 2147483647 % 999983 % n, ?_, Int.emod_nonneg _ (by omega), Int.emod_lt_of_pos _ hn⟩
  have c := call2 (ρ := [some (scr ns), some (.int k), some (.int n), none]) hv
  have m1 := mulD_r v 1103515245 (by decide)
  have m2 := mulD_l 7919 k (by decide)
  have d1 := modD_int (v * 1103515245 + 7919 * k + 12345) 2147483647 (by decide)
  have p1 := powD_int ((v * 1103515245 + 7919 * k + 12345) % 2147483647) 5 ⟨by decide, by decide, hp⟩
  have p2 := fun x => modD_int x 2147483647 (by decide)
  have p3 := fun x => modD_int x 999983 (by decide)
  have p4 := fun x => modD_int x n hn
  simp [m__law_mixed, fnM, outE, body__law_mixed, c, m1, m2, d1, p1, p2, p3, p4]
theorem draw_ok (ns : List Int) (tw : List D) (n : Int) (hn : 0 < n) (hl : tw.length < lim) : ∃ r, m__law_draw [scr ns, .list tw, .int n] = .ok (.int r) [none, some (.list (tw ++ [.int 0])), none] ∧ 0 ≤ r ∧ r < n := by
  obtain ⟨r, hr, h1, h2⟩ := mixed_ok ns ((tw.length : Int) + 1) n (by omega) hn
  refine ⟨r, ?_, h1, h2⟩
  have c := call3 (ρ := [some (scr ns), some (.list (tw ++ [.int 0])), some (.int n)]) hr
  have hl' : tw.length + 1 ≤ lim := hl
  simp [m__law_draw, fnM, outE, body__law_draw, eMut, valsOf, appD, hl, hl', lenD, derefs, c]
theorem pick_ok (ns : List Int) (tw some_ : List D) (h0 : some_ ≠ []) (hl : tw.length < lim) : ∃ d, d ∈ some_ ∧ m__law_pick [scr ns, .list tw, .list some_] = .ok d [none, some (.list (tw ++ [.int 0])), none] := by
  have hp : 0 < some_.length := List.length_pos_iff.mpr h0
  obtain ⟨r, hr, h1, h2⟩ := draw_ok ns tw (some_.length : Int) (by omega) hl
  have hi : r.toNat < some_.length := by omega
  refine ⟨some_[r.toNat], List.getElem_mem hi, ?_⟩
  have hx : ixD (.list some_) (.int r) = some some_[r.toNat] := by simp [ixD, L2.atI, ixN, h1, h2, hi]
  simp [m__law_pick, fnM, outE, body__law_pick, lenD, derefs, callM, argIn, hr, putOut, hx]
end U

set_option maxRecDepth 100000
set_option linter.all false
set_option maxHeartbeats 4000000
namespace U
open PySem PySem.Spec PyProof.Rows L2 RZ PD
open PySem.W (dataLt alike alikeAll keyToks keyToksAll)

theorem drop1 (ds : List D) : PD.cutD ds (some 1) none = ds.tail := by
  unfold PD.cutD
  rw [HT.sIx_none, show HT.sIx ds.length 0 (some 1) = min 1 ds.length from HT.sIx_nat _ _ 1]
  cases ds with
  | nil => rfl
  | cons a r => simp
theorem mem_zip1 : ∀ {ds : List D} {p : D}, p ∈ zipD ds ds.tail → ∃ l a b r, ds = l ++ a :: b :: r ∧ p = .tuple [a, b]
  | [], p, h => by simp [zipD] at h
  | [a], p, h => by simp [zipD] at h
  | a :: b :: r, p, h => by
    have h' : p = .tuple [a, b] ∨ p ∈ zipD (b :: r) (b :: r).tail := by simpa [zipD] using h
    rcases h' with rfl | h'
    · exact ⟨[], a, b, r, rfl, rfl⟩
    · obtain ⟨l, c, d, t, e, rfl⟩ := mem_zip1 h'
      exact ⟨a :: l, c, d, t, by rw [e]; rfl, rfl⟩
theorem all_true (l : List D) : boolsD (l.map fun _ => .bool true) = some (l.map fun _ => true) := by
  induction l with
  | nil => rfl
  | cons a l ih => simp [boolsD, ih]
theorem allD_true (l : List D) : allD [.list (l.map fun _ => .bool true)] = some (.bool true) := by
  have h : (l.map fun _ => true).all id = true := by simp
  simp only [allD, all_true, Option.map_some, h]
theorem rising_ok (ds : List D) (hc : ∀ a ∈ ds, ∀ b ∈ ds, cmpOk a b = true) (hp : ds.Pairwise fun a b => dataLt a b = true) : m_is_rising [.tuple ds] = .ok (.bool true) [none] := by
  have hl : lcGo (.tp [.nm 1, .nm 2]) bYes (eOp2 ltD (oVal (eVar 1)) (oVal (eVar 2))) [1, 2] (zipD ds ds.tail) [some (.tuple ds), none, none] = .ok ((zipD ds ds.tail).map fun _ => .bool true) [some (.tuple ds), none, none] := by
    refine lcGo_map (fun _ => .bool true) _ fun p hp' => ?_
    obtain ⟨l, a, b, r, e, rfl⟩ := mem_zip1 hp'
    have ha : a ∈ ds := by rw [e]; simp
    have hb : b ∈ ds := by rw [e]; simp
    have hlt : dataLt a b = true := by
      rw [e, List.pairwise_append] at hp
      exact (List.pairwise_cons.mp hp.2.1).1 b (by simp)
    refine ⟨[some (.tuple ds), some a, some b], [some (.tuple ds), some a, some b], by simp [bindT, bindTs], ?_, by simp [wipeD]⟩
    have : ltD a b = some (.bool true) := by unfold ltD; rw [if_pos (hc a ha b hb), hlt]
    simp [this]
  simp [m_is_rising, fnM, outE, body_is_rising, slD, drop1, zipItems, wipeD, hl, derefs, allD, all_true, resD]
theorem cmpOk_shp {n m : Nat} {d e : D} (h1 : shp n d = true) (h2 : shp m e = true) (hn : n ≤ 64) (hm : m ≤ 64) (ha : alike d e = true) (h0 : noneD d = false) : cmpOk d e = true := by
  unfold cmpOk
  rw [shaped_of h1 hn, shaped_of h2 hm, ha, h0]; rfl

/-! ### sorted, no two alike: rising -/
theorem dle_trans (a b c : D) : dleD a b = true → dleD b c = true → dleD a c = true := by
  unfold dleD PySem.W.dataLt
  simp only [Bool.not_eq_true']
  intro h1 h2
  cases h : PyProof.Rows.lexLt itemOrd (keyToks c) (keyToks a) with
  | false => rfl
  | true =>
    exfalso
    cases h3 : PyProof.Rows.lexLt itemOrd (keyToks a) (keyToks b) with
    | true => rw [PyProof.Rows.lex_trans _ _ _ h h3] at h2; cases h2
    | false =>
      have := PyProof.Rows.lex_total _ _ h3 h1
      rw [this] at h
      rw [h] at h2; cases h2
theorem dle_total (a b : D) : (dleD a b || dleD b a) = true := by
  unfold dleD PySem.W.dataLt
  cases h : PyProof.Rows.lexLt itemOrd (keyToks b) (keyToks a) with
  | false => rfl
  | true =>
    cases h2 : PyProof.Rows.lexLt itemOrd (keyToks a) (keyToks b) with
    | false => rfl
    | true =>
      have := PyProof.Rows.lex_trans _ _ _ h h2
      rw [PyProof.Rows.lex_irrefl] at this
      cases this
theorem sorted_rising {ds : List D} (h : ds.Pairwise fun a b => keyToks a ≠ keyToks b) : (ds.mergeSort dleD).Pairwise fun a b => dataLt a b = true := by
  have h1 : (ds.mergeSort dleD).Pairwise fun a b => dleD a b = true := List.pairwise_mergeSort (fun a b c => dle_trans a b c) (fun a b => dle_total a b) ds
  have h2 : (ds.mergeSort dleD).Pairwise fun a b => keyToks a ≠ keyToks b := ((List.mergeSort_perm ds dleD).pairwise_iff (fun h => h.symm)).mpr h
  refine (h1.and h2).imp fun {a b} ⟨q1, q2⟩ => ?_
  unfold dleD PySem.W.dataLt at q1
  simp only [Bool.not_eq_true'] at q1
  cases q : dataLt a b with
  | true => rfl
  | false => exact absurd (PyProof.Rows.lex_total _ _ q q1) q2
theorem toks_ne {a b : D} (ha : alike a b = true) (h : PyData.eqv a b = false) : keyToks a ≠ keyToks b := fun e => by
  have := (PySem.W.toks_eqv a b ha).2 h [] [.inl 0]
  rw [e, PyProof.Rows.lex_irrefl, PySem.W.lex_pre] at this
  cases this
end U

set_option maxRecDepth 100000
set_option linter.all false
set_option maxHeartbeats 4000000
namespace U
open PySem PySem.Spec PyProof.Rows L2 RZ PD
open PySem.W (dataLt alike alikeAll keyToks keyToksAll)
abbrev door (p : Int × Int) : D := .tuple [.int p.1, .int p.2]
abbrev hous (n : Int) (ps : List (Int × Int)) : D := .tuple [.int n, .tuple (ps.map door)]
structure HsOk (n : Int) (ps : List (Int × Int)) : Prop where
  lo : 2 ≤ n
  hi : n ≤ 10
  dr : ∀ p ∈ ps, 0 ≤ p.1 ∧ p.1 < p.2 ∧ p.2 ≤ n - 1
  ln : ps.length ≤ 20
  ri : (ps.map door).Pairwise fun a b => dataLt a b = true
theorem door_shp (p : Int × Int) : shp 1 (door p) = true := by simp [shp, shpAll]
theorem door_alike (p q : Int × Int) : alike (door p) (door q) = true := by simp [alike, alikeAll]
theorem doors_cmp (ps : List (Int × Int)) : ∀ a ∈ ps.map door, ∀ b ∈ ps.map door, cmpOk a b = true := by
  intro a ha b hb
  obtain ⟨p, _, rfl⟩ := List.mem_map.mp ha
  obtain ⟨q, _, rfl⟩ := List.mem_map.mp hb
  exact cmpOk_shp (door_shp p) (door_shp q) (by decide) (by decide) (door_alike p q) rfl
theorem whole_c (ρ : PD.Env) (i lo hi : Int) : callM 3 none m_is_whole [.val (.int i), .val (.int lo), .val (.int hi)] ρ = .ok (.bool (decide (lo ≤ i) && decide (i ≤ hi))) ρ := call3 (is_whole_ok (.int i) lo hi fun es e => nomatch e)
theorem atI0 {a : D} {l : List D} : L2.atI (a :: l) 0 = some a := by simp [L2.atI, ixN]
theorem atI1 {a b : D} {l : List D} : L2.atI (a :: b :: l) 1 = some b := by
  have h : (1 : Int) < ((a :: b :: l).length : Int) := by simp only [List.length_cons]; omega
  unfold L2.atI ixN
  rw [if_pos (by decide), if_pos h]
  rfl
theorem is_door_ok (n : Int) (p : Int × Int) (h : 0 ≤ p.1 ∧ p.1 < p.2 ∧ p.2 ≤ n - 1) : m_is_door [.int n, door p] = .ok (.bool true) [none, none] := by
  obtain ⟨h1, h2, h3⟩ := h
  have h4 : p.1 ≤ n - 1 := by omega
  have h5 : 0 ≤ p.2 := by omega
  simp [m_is_door, fnM, outE, body_is_door, isiD, isi, boolD, lenD, derefs, neD_int, itemsD, wipeD, lcGo, bindT, bYes, whole_c, resD, allD, boolsD, ixD, atI0, atI1, ltD_int, h1, h2, h3, h4, h5]
theorem is_house_ok {n : Int} {ps : List (Int × Int)} (h : HsOk n ps) : m_is_house [hous n ps] = .ok (.bool true) [none] := by
  have g1 : decide (2 ≤ n) = true := decide_eq_true h.lo
  have g2 : decide (n ≤ 10) = true := decide_eq_true h.hi
  have hl : ¬ (20 : Int) < (ps.length : Int) := by have := h.ln; omega
  have r := rising_ok (ps.map door) (doors_cmp ps) h.ri
  have cr := fun ρ => call1 (ρ := ρ) r
  have lc : lcGo (.nm 1) bYes (eCall 2 none m_is_door (aCons (oVal (eOp2 ixD (oVal (eVar 0)) (oVal (eC (.int 0))))) (aCons (oVal (eVar 1)) aNil))) [1] (ps.map door) [some (hous n ps), none] = .ok ((ps.map door).map fun _ => .bool true) [some (hous n ps), none] := by
    refine lcGo_map (fun _ => .bool true) _ fun d hd => ?_
    obtain ⟨p, hp, rfl⟩ := List.mem_map.mp hd
    refine ⟨[some (hous n ps), some (door p)], [some (hous n ps), some (door p)], by simp [bindT], ?_, by simp [wipeD]⟩
    have c := fun ρ => call2 (ρ := ρ) (is_door_ok n p (h.dr p hp))
    simp [ixD, atI0, c]
  have at0 := allD_true (ps.map door)
  simp [m_is_house, fnM, outE, body_is_house, isiD, isi, boolD, lenD, derefs, neD_int, gtD_int, ixD, atI0, atI1, whole_c, itemsD, wipeD, g1, g2, hl, lc, resD, at0, cr, -List.map_map]
end U

set_option maxRecDepth 100000
set_option linter.all false
set_option maxHeartbeats 4000000
namespace U
open PySem PySem.Spec PyProof.Rows L2 RZ PD
open PySem.W (dataLt alike alikeAll keyToks keyToksAll)
theorem boolsD_mapf (f : D → Bool) (l : List D) : boolsD (l.map fun d => .bool (f d)) = some (l.map f) := by
  induction l with
  | nil => rfl
  | cons a l ih => simp [boolsD, ih]
theorem allD_map (f : D → Bool) (l : List D) : allD [.list (l.map fun d => .bool (f d))] = some (.bool (l.all f)) := by
  have h : (l.map f).all id = l.all f := by simp [List.all_map]
  simp only [allD, boolsD_mapf, Option.map_some, h]
theorem need_house_ok {n : Int} {ps : List (Int × Int)} (h : HsOk n ps) : m_need_house [hous n ps] = .ok .none [none] := by
  have c := fun ρ => call1 (ρ := ρ) (is_house_ok h)
  simp [m_need_house, fnM, outE, body_need_house, c, boolD]
theorem need_house_no {d : D} (h : m_is_house [d] = .ok (.bool false) [none]) : m_need_house [d] = .exc 0 [none] := by
  have c := fun ρ => call1 (ρ := ρ) h
  simp [m_need_house, fnM, outE, body_need_house, c, boolD]
abbrev dspot (p : Int × Int) : D := .tuple [.str "door", .int p.1, .int p.2]
abbrev rspot (r : D) : D := .tuple [.str "room", r]
def spots (n : Int) (ps : List (Int × Int)) : List D := ps.map dspot ++ (rgD 1 n).map rspot
theorem rg_ok {n : Int} (h1 : 2 ≤ n) (h2 : n ≤ 10) : rgItems (.int 1) (.int n) = some (rgD 1 n) := by
  have : rgOk 1 n = true := by
    unfold rgOk
    simp only [Bool.and_eq_true, decide_eq_true_eq]
    refine ⟨⟨⟨⟨by decide, by decide⟩, by omega⟩, by omega⟩, ?_⟩
    show (n - 1).toNat ≤ 1000000
    omega
  simp [rgItems, this]
theorem all_spots_ok {n : Int} {ps : List (Int × Int)} (h : HsOk n ps) : m_all_spots [hous n ps] = .ok (.list (spots n ps)) [none] := by
  have l1 : lcGo (.nm 1) bYes (eOp2 addD (oVal (eTup (aCons (oVal (eC (.str "door"))) aNil))) (oVal (eVar 1))) [1] (ps.map door) [some (hous n ps), none, none] = .ok (ps.map dspot) [some (hous n ps), none, none] := by
    have := lcGo_map (T := .nm 1) (elt := eOp2 addD (oVal (eTup (aCons (oVal (eC (.str "door"))) aNil))) (oVal (eVar 1))) (own := [1]) (ρ := [some (hous n ps), none, none]) (fun d => match d with | .tuple [.int a, .int b] => dspot (a, b) | _ => .none) (ps.map door) fun d hd => by
      obtain ⟨p, hp, rfl⟩ := List.mem_map.mp hd
      exact ⟨[some (hous n ps), some (door p), none], [some (hous n ps), some (door p), none], by simp [bindT], by simp [valsOf, lim, addD], by simp [wipeD]⟩
    rw [this, List.map_map]
    rfl
  have l2 : lcGo (.nm 2) bYes (eTup (aCons (oVal (eC (.str "room"))) (aCons (oVal (eVar 2)) aNil))) [2] (rgD 1 n) [some (hous n ps), none, none] = .ok ((rgD 1 n).map rspot) [some (hous n ps), none, none] :=
    lcGo_map rspot (rgD 1 n) fun d hd => ⟨[some (hous n ps), none, some d], [some (hous n ps), none, some d], by simp [bindT], by simp [valsOf, lim], by simp [wipeD]⟩
  have hlen : (ps.map dspot).length + ((rgD 1 n).map rspot).length ≤ lim := by
    have := h.ln
    have := h.hi
    rw [List.length_map, List.length_map, rgD_len]
    show _ ≤ 1000000
    omega
  have ha : addD (.list (ps.map dspot)) (.list ((rgD 1 n).map rspot)) = some (.list (spots n ps)) := by
    exact if_pos hlen
  simp [m_all_spots, fnM, outE, body_all_spots, ixD, atI0, atI1, itemsD, wipeD, l1, resD, rg_ok h.lo h.hi, l2, ha]
theorem so1 : PyData.strOk "door" = true := by decide +kernel
theorem so2 : PyData.strOk "room" = true := by decide +kernel
theorem spots_shp (n : Int) (ps : List (Int × Int)) : shp 2 (.list (spots n ps)) = true := by
  simp only [shp, shpAll_iff]
  intro d hd
  rcases List.mem_append.mp hd with hd | hd
  · obtain ⟨p, _, rfl⟩ := List.mem_map.mp hd
    simp [shp, shpAll, so1, so2]
  · obtain ⟨r, hr, rfl⟩ := List.mem_map.mp hd
    unfold rgD at hr
    obtain ⟨i, _, rfl⟩ := List.mem_map.mp hr
    simp [shp, shpAll, so1, so2]
theorem inD_shp {k m : Nat} {d : D} {es : List D} (h1 : shp k d = true) (h2 : shp m (.list es) = true) (hk : k ≤ 64 := by decide) (hm : m ≤ 64 := by decide) : inD d (.list es) = some (.bool (es.any fun z => PyData.eqv z d)) := by
  simp [inD, shaped_of h1 hk, shaped_of h2 hm]
theorem is_spot_ok {n : Int} {ps : List (Int × Int)} (h : HsOk n ps) (s : Str) (nums : List D) (hs : shp 2 (.tuple (.str s :: nums)) = true) (nd : ∀ d ∈ nums, ∀ es, d ≠ .dict es) :
    m_is_spot [hous n ps, .tuple (.str s :: nums)] = .ok (.bool ((nums.all fun x => wh x 0 n) && (spots n ps).any fun z => PyData.eqv z (.tuple (.str s :: nums)))) [none, none] := by
  have e1 := eqD_shp (e := .tuple []) (m := 1) hs rfl
  have e2 : PyData.eqv (.tuple (.str s :: nums)) (.tuple []) = false := by simp [PyData.eqv, PyData.eqvAll]
  rw [e2] at e1
  have l1 : lcGo (.nm 2) bYes (eCall 3 none m_is_whole (aCons (oVal (eVar 2)) (aCons (oVal (eC (.int 0))) (aCons (oVal (eOp2 ixD (oVal (eVar 0)) (oVal (eC (.int 0))))) aNil)))) [2] nums [some (hous n ps), some (.tuple (.str s :: nums)), none] =
      .ok (nums.map fun d => .bool (wh d 0 n)) [some (hous n ps), some (.tuple (.str s :: nums)), none] := by
    refine lcGo_map _ nums fun d hd => ?_
    have c := fun ρ => call3 (ρ := ρ) (is_whole_ok d 0 n (nd d hd))
    exact ⟨[some (hous n ps), some (.tuple (.str s :: nums)), some d], [some (hous n ps), some (.tuple (.str s :: nums)), some d], by simp [bindT], by simp [ixD, atI0, c], by simp [wipeD]⟩
  have ad := allD_map (fun x => wh x 0 n) nums
  have sp := fun ρ => call1 (ρ := ρ) (all_spots_ok h)
  have ins := inD_shp hs (spots_shp n ps)
  have dr := drop1 (.str s :: nums)
  simp only [List.tail_cons] at dr
  cases q : nums.all fun x => wh x 0 n with
  | false =>
    rw [q] at ad
    simp [m_is_spot, fnM, outE, body_is_spot, isiD, isi, boolD, e1, valsOf, lim, ixD, atI0, slD, dr, itemsD, wipeD, l1, resD, derefs, ad]
  | true =>
    rw [q] at ad
    simp [m_is_spot, fnM, outE, body_is_spot, isiD, isi, boolD, e1, valsOf, lim, ixD, atI0, slD, dr, itemsD, wipeD, l1, resD, derefs, ad, sp, ins]
end U

set_option maxRecDepth 100000
set_option linter.all false
set_option maxHeartbeats 4000000
namespace U
open PySem PySem.Spec PyProof.Rows L2 RZ PD
open PySem.W (dataLt alike alikeAll keyToks keyToksAll)
theorem sne1 : (("door" : Str) == "room") = false := by decide +kernel
theorem sne2 : (("room" : Str) == "door") = false := by decide +kernel
theorem sne3 : (("door" : Str) == "hall") = false := by decide +kernel
theorem sne4 : (("room" : Str) == "hall") = false := by decide +kernel
theorem any_room (n : Int) (ps : List (Int × Int)) (k : Int) : ((spots n ps).any fun z => PyData.eqv z (.tuple [.str "room", .int k])) = decide (1 ≤ k ∧ k < n) := by
  unfold spots
  rw [List.any_append, List.any_map, List.any_map]
  have h1 : (ps.any ((fun z => PyData.eqv z (.tuple [.str "room", .int k])) ∘ dspot)) = false := by
    rw [List.any_eq_false]
    intro p _
    simp [PyData.eqv, PyData.eqvAll, sne1]
  rw [h1, Bool.false_or]
  by_cases h : 1 ≤ k ∧ k < n
  · rw [decide_eq_true h, List.any_eq_true]
    refine ⟨.int k, ?_, by simp [PyData.eqv, PyData.eqvAll]⟩
    unfold rgD
    exact List.mem_map.mpr ⟨(k - 1).toNat, List.mem_range.mpr (by omega), by congr 1; omega⟩
  · rw [decide_eq_false h, List.any_eq_false]
    intro r hr
    unfold rgD at hr
    obtain ⟨i, hi, rfl⟩ := List.mem_map.mp hr
    have hi := List.mem_range.mp hi
    have : ¬ (1 + (i : Int) = k) := by omega
    simp [PyData.eqv, PyData.eqvAll, this]
theorem any_door10 {n : Int} {ps : List (Int × Int)} (h : HsOk n ps) : ((spots n ps).any fun z => PyData.eqv z (.tuple [.str "door", .int 1, .int 0])) = false := by
  unfold spots
  rw [List.any_append, List.any_map, List.any_map, Bool.or_eq_false_iff]
  constructor
  · rw [List.any_eq_false]
    intro p hp
    have := h.dr p hp
    have : ¬ (p.1 = 1 ∧ p.2 = 0) := by omega
    simp [PyData.eqv, PyData.eqvAll]
    omega
  · rw [List.any_eq_false]
    intro r _
    simp [PyData.eqv, PyData.eqvAll, sne2]
theorem any_hall (n : Int) (ps : List (Int × Int)) : ((spots n ps).any fun z => PyData.eqv z (.tuple [.str "hall", .int 1])) = false := by
  unfold spots
  rw [List.any_append, List.any_map, List.any_map, Bool.or_eq_false_iff]
  constructor
  · rw [List.any_eq_false]
    intro p hp
    simp [PyData.eqv, PyData.eqvAll, sne3]
  · rw [List.any_eq_false]
    intro r _
    simp [PyData.eqv, PyData.eqvAll, sne4]
def beats10 : List Str := ["#", "#.", ".#", "##.", "..#", "#..#", ".#.#", "...", "#.#.#.", ".##..#"]
theorem sin1 : inD (chD 35) (.str "#.") = some (.bool true) := by
  show some (PyData.bool (strIn _ _)) = _
  rw [show strIn (⟨#[35]⟩ : Str) "#." = true from by decide +kernel]
theorem sin2 : inD (chD 46) (.str "#.") = some (.bool true) := by
  show some (PyData.bool (strIn _ _)) = _
  rw [show strIn (⟨#[46]⟩ : Str) "#." = true from by decide +kernel]
theorem sin3 : inD (chD 120) (.str "#.") = some (.bool false) := by
  show some (PyData.bool (strIn _ _)) = _
  rw [show strIn (⟨#[120]⟩ : Str) "#." = false from by decide +kernel]
theorem sign_ok (t : Str) (ht : t ∈ beats10) (a b : Option D) : lcGo (.nm 2) bYes (eOp2 inD (oVal (eVar 2)) (oVal (eC (.str "#.")))) [2] (t.cps.toList.map chD) [a, b, none] = .ok ((t.cps.toList.map chD).map fun _ => .bool true) [a, b, none] ∧ 1 ≤ t.length ∧ t.length ≤ 6 := by
  have h : (t.cps.toList.all fun c => c == 35 || c == 46) = true ∧ 1 ≤ t.length ∧ t.length ≤ 6 := by
    unfold beats10 at ht
    simp only [List.mem_cons, List.not_mem_nil, or_false] at ht
    rcases ht with rfl | rfl | rfl | rfl | rfl | rfl | rfl | rfl | rfl | rfl <;> exact ⟨by decide +kernel, by decide, by decide⟩
  refine ⟨lcGo_map (fun _ => .bool true) _ fun d hd => ?_, h.2⟩
  obtain ⟨c, hc, rfl⟩ := List.mem_map.mp hd
  have hc := List.all_eq_true.mp h.1 c hc
  refine ⟨[a, b, some (chD c)], [a, b, some (chD c)], by simp [bindT], ?_, by simp [wipeD]⟩
  have : inD (chD c) (.str "#.") = some (.bool true) := by
    simp only [Bool.or_eq_true, beq_iff_eq] at hc
    rcases hc with rfl | rfl
    · exact sin1
    · exact sin2
  simp [this]
theorem watcher_c {n : Int} {ps : List (Int × Int)} {z : D} {t : Str} (hs : m_is_spot [hous n ps, z] = .ok (.bool true) [none, none]) (ht : t ∈ beats10) : m_is_watcher [hous n ps, .tuple [z, .str t]] = .ok (.bool true) [none, none] := by
  obtain ⟨l1, h1, h2⟩ := sign_ok t ht (some (hous n ps)) (some (.tuple [z, .str t]))
  have c := fun ρ => call2 (ρ := ρ) hs
  have at0 := allD_true (t.cps.toList.map chD)
  have g1 : (1 : Int) ≤ (t.length : Int) := by omega
  have g2 : (t.length : Int) ≤ 6 := by omega
  simp [m_is_watcher, fnM, outE, body_is_watcher, isiD, isi, boolD, lenD, derefs, neD_int, ixD, atI0, atI1, c, leD_int, g1, g2, itemsD, wipeD, l1, resD, at0, -List.map_map]
theorem watcher_s {n : Int} {ps : List (Int × Int)} {z t : D} (hs : m_is_spot [hous n ps, z] = .ok (.bool false) [none, none]) : m_is_watcher [hous n ps, .tuple [z, t]] = .ok (.bool false) [none, none] := by
  have c := fun ρ => call2 (ρ := ρ) hs
  simp [m_is_watcher, fnM, outE, body_is_watcher, isiD, isi, boolD, lenD, derefs, neD_int, ixD, atI0, atI1, c]
theorem watching_1 {h x : D} (hx : m_is_watcher [h, x] = .ok (.bool false) [none, none]) : m_are_watching [h, .tuple [x]] = .ok (.bool false) [none, none] := by
  have c := fun ρ => call2 (ρ := ρ) hx
  simp [m_are_watching, fnM, outE, body_are_watching, isiD, isi, boolD, lenD, derefs, gtD_int, itemsD, wipeD, lcGo, bindT, bYes, c, resD, allD, boolsD]
theorem watching_2 {h x y : D} {b : Bool} (hx : m_is_watcher [h, x] = .ok (.bool false) [none, none]) (hy : m_is_watcher [h, y] = .ok (.bool b) [none, none]) : m_are_watching [h, .tuple [x, y]] = .ok (.bool false) [none, none] := by
  have c := fun ρ => call2 (ρ := ρ) hx
  have c2 := fun ρ => call2 (ρ := ρ) hy
  simp [m_are_watching, fnM, outE, body_are_watching, isiD, isi, boolD, lenD, derefs, gtD_int, itemsD, wipeD, lcGo, bindT, bYes, c, c2, resD, allD, boolsD]
theorem room1_ok {n : Int} {ps : List (Int × Int)} (h : HsOk n ps) : m_is_spot [hous n ps, rspot (.int 1)] = .ok (.bool true) [none, none] := by
  have := is_spot_ok h "room" [.int 1] (by simp [shp, shpAll, so2]) (by simp)
  rw [any_room] at this
  have h1 := h.lo
  have e : (([.int 1] : List D).all fun x => wh x 0 n) = true := by simp [wh]; omega
  have e2 : decide ((1 : Int) ≤ 1 ∧ (1 : Int) < n) = true := decide_eq_true ⟨by omega, by omega⟩
  rw [e, e2] at this
  exact this
theorem spot_no {n : Int} {ps : List (Int × Int)} (h : HsOk n ps) (s : Str) (nums : List D) (hs : shp 2 (.tuple (.str s :: nums)) = true) (nd : ∀ d ∈ nums, ∀ es, d ≠ .dict es)
    (e : ((nums.all fun x => wh x 0 n) && (spots n ps).any fun z => PyData.eqv z (.tuple (.str s :: nums))) = false) : m_is_spot [hous n ps, .tuple (.str s :: nums)] = .ok (.bool false) [none, none] := by
  have := is_spot_ok h s nums hs nd
  rw [e] at this
  exact this
end U

set_option maxRecDepth 100000
set_option linter.all false
set_option maxHeartbeats 4000000
namespace U
open PySem PySem.Spec PyProof.Rows L2 RZ PD
open PySem.W (dataLt alike alikeAll keyToks keyToksAll)
def oddH : List D := [.none, .int 5, .tuple [], .tuple [.int 1, .tuple []], .tuple [.int 11, .tuple []], .tuple [.bool true, .tuple []], .tuple [.int 3, .list [door (0, 1)]], .list [.int 3, .tuple []], .tuple [.int 3, .tuple [door (1, 0)]],
  .tuple [.int 3, .tuple [door (0, 1), door (0, 1)]], .tuple [.int 3, .tuple [door (1, 2), door (0, 1)]], .tuple [.int 3, .tuple [.tuple [.int 0, .bool true]]], .str "rooms 3", .tuple [.int 3], .tuple [.int 3, .tuple [door (0, 3)]], .tuple [.int 3, .tuple [door (0, 0)]]]
theorem oddH_no (d : D) (h : d ∈ oddH) : m_is_house [d] = .ok (.bool false) [none] := by
  unfold oddH at h
  simp only [List.mem_cons, List.not_mem_nil, or_false] at h
  rcases h with rfl | rfl | rfl | rfl | rfl | rfl | rfl | rfl | rfl | rfl | rfl | rfl | rfl | rfl | rfl | rfl <;> rfl
theorem odd_house_ok (ns : List Int) (tw : List D) (hl : tw.length < lim) : ∃ d ∈ oddH, m__law_odd_house [scr ns, .list tw] = .ok d [none, some (.list (tw ++ [.int 0]))] := by
  obtain ⟨d, hd, hr⟩ := pick_ok ns tw oddH (by unfold oddH; simp) hl
  refine ⟨d, hd, ?_⟩
  unfold oddH at hr
  simp [m__law_odd_house, fnM, outE, body__law_odd_house, valsOf, lim, addD, callM, argIn, putOut, hr]
abbrev wat (z t : D) : D := .tuple [z, t]
def oddW : List D := [.none, .int 5, .list [], .tuple [wat (rspot (.int 0)) (.str "#")], .tuple [wat (rspot (.int 1)) (.str "")], .tuple [wat (rspot (.int 1)) (.str "#######")], .tuple [wat (rspot (.int 99)) (.str "#")], .tuple [wat (dspot (1, 0)) (.str "#")],
  .tuple [wat (rspot (.int 1)) (.str "#"), wat (rspot (.int 1)) (.str "#")], .tuple [wat (.tuple [.str "hall", .int 1]) (.str "#")], .tuple [wat (rspot (.int 1)) .none], .tuple [wat (rspot (.bool true)) (.str "#")], .tuple [rspot (.int 1), .str "#"], .tuple [wat (rspot (.int 1)) (.str "x")]]
theorem odd_watchers_ok (ns : List Int) (tw : List D) (hl : tw.length < lim) : ∃ d ∈ oddW, m__law_odd_watchers [scr ns, .list tw] = .ok d [none, some (.list (tw ++ [.int 0]))] := by
  obtain ⟨d, hd, hr⟩ := pick_ok ns tw oddW (by unfold oddW; simp) hl
  refine ⟨d, hd, ?_⟩
  unfold oddW at hr
  simp [m__law_odd_watchers, fnM, outE, body__law_odd_watchers, valsOf, lim, addD, mulD, callM, argIn, putOut, hr]
theorem so3 : PyData.strOk "hall" = true := by decide +kernel
theorem so4 : PyData.strOk "#" = true := by decide +kernel
theorem eqR (a b : D) : PyData.eqv (.tuple [a, b]) (.tuple [a, b]) = (PyData.eqv a a && PyData.eqv b b) := by simp [PyData.eqv, PyData.eqvAll]
theorem oddW_no {n : Int} {ps : List (Int × Int)} (h : HsOk n ps) (d : D) (hd : d ∈ oddW) : m_are_watching [hous n ps, d] = .ok (.bool false) [none, none] := by
  have r1 := room1_ok h
  have c1 := fun ρ => call2 (ρ := ρ) r1
  have h1 := h.lo
  have h2 := h.hi
  unfold oddW at hd
  simp only [List.mem_cons, List.not_mem_nil, or_false] at hd
  rcases hd with rfl | rfl | rfl | rfl | rfl | rfl | rfl | rfl | rfl | rfl | rfl | rfl | rfl | rfl
  · rfl
  · rfl
  · rfl
  · refine watching_1 (watcher_s (spot_no h "room" [.int 0] (by simp [shp, shpAll, so2]) (by simp) ?_))
    rw [any_room]
    simp
  · refine watching_1 ?_
    simp [m_is_watcher, fnM, outE, body_is_watcher, isiD, isi, boolD, lenD, derefs, neD_int, ixD, atI0, atI1, c1, leD_int, show (("" : Str).length) = 0 from rfl]
  · refine watching_1 ?_
    simp [m_is_watcher, fnM, outE, body_is_watcher, isiD, isi, boolD, lenD, derefs, neD_int, ixD, atI0, atI1, c1, leD_int, show (("#######" : Str).length) = 7 from rfl]
  · refine watching_1 (watcher_s (spot_no h "room" [.int 99] (by simp [shp, shpAll, so2]) (by simp) ?_))
    have : ([.int 99] : List D).all (fun x => wh x 0 n) = false := by simp [wh]; omega
    rw [this]; rfl
  · refine watching_1 (watcher_s (spot_no h "door" [.int 1, .int 0] (by simp [shp, shpAll, so1]) (by simp) ?_))
    rw [any_door10 h, Bool.and_false]
  · have w := watcher_c r1 (t := "#") (by unfold beats10; simp)
    have c := fun ρ => call2 (ρ := ρ) w
    have lt : ltD (wat (rspot (.int 1)) (.str "#")) (wat (rspot (.int 1)) (.str "#")) = some (.bool false) := by
      have ck : cmpOk (wat (rspot (.int 1)) (.str "#")) (wat (rspot (.int 1)) (.str "#")) = true := cmpOk_shp (n := 2) (m := 2) (by simp [shp, shpAll, so2, so4]) (by simp [shp, shpAll, so2, so4]) (by decide) (by decide) (by simp [alike, alikeAll]) rfl
      unfold ltD
      rw [if_pos ck, show dataLt (wat (rspot (.int 1)) (.str "#")) (wat (rspot (.int 1)) (.str "#")) = false from PyProof.Rows.lex_irrefl _]
    have ri : m_is_rising [.tuple [wat (rspot (.int 1)) (.str "#"), wat (rspot (.int 1)) (.str "#")]] = .ok (.bool false) [none] := by
      simp [m_is_rising, fnM, outE, body_is_rising, slD, drop1, zipItems, zipD, wipeD, lcGo, bindT, bindTs, bYes, lt, derefs, allD, boolsD, resD]
    have cr := fun ρ => call1 (ρ := ρ) ri
    simp [m_are_watching, fnM, outE, body_are_watching, isiD, isi, boolD, lenD, derefs, gtD_int, itemsD, wipeD, lcGo, bindT, bYes, c, resD, allD, boolsD, cr]
  · refine watching_1 (watcher_s (spot_no h "hall" [.int 1] (by simp [shp, shpAll, so3]) (by simp) ?_))
    rw [any_hall, Bool.and_false]
  · refine watching_1 ?_
    simp [m_is_watcher, fnM, outE, body_is_watcher, isiD, isi, boolD, lenD, derefs, neD_int, ixD, atI0, atI1, c1, leD_int]
  · refine watching_1 (watcher_s (spot_no h "room" [.bool true] (by simp [shp, shpAll, so2]) (by simp) ?_))
    simp [wh]
  · exact watching_2 (b := false) (watcher_s rfl) rfl
  · refine watching_1 ?_
    have lx : ("x" : Str).cps.toList = [120] := by decide +kernel
    simp [m_is_watcher, fnM, outE, body_is_watcher, isiD, isi, boolD, lenD, derefs, neD_int, ixD, atI0, atI1, c1, leD_int, show (("x" : Str).length) = 1 from rfl, itemsD, wipeD, lcGo, bindT, bYes, lx, sin3, resD, allD, boolsD]
end U

set_option maxRecDepth 100000
set_option linter.all false
set_option maxHeartbeats 4000000
namespace U
open PySem PySem.Spec PyProof.Rows L2 RZ PD
open PySem.W (dataLt alike alikeAll keyToks keyToksAll)
theorem draw_c (ns : List Int) (tw : List D) (n : Int) (hn : 0 < n) (hl : tw.length < lim) : ∃ r, 0 ≤ r ∧ r < n ∧ ∀ (a : Option D) (ρ : PD.Env), callM 3 (some (1, 1)) m__law_draw [.val (scr ns), .lnd 1, .val (.int n)] (a :: some (.list tw) :: ρ) = .ok (.int r) (a :: some (.list (tw ++ [.int 0])) :: ρ) := by
  obtain ⟨r, hr, h1, h2⟩ := draw_ok ns tw n hn hl
  exact ⟨r, h1, h2, fun a ρ => by simp [callM, argIn, hr, putOut]⟩
abbrev bodyIn : PD.Env → SR := (sIf (bOr (bOf (eOp2 ltD (oVal (eCall 3 (some (1, 1)) m__law_draw (aCons (oVal (eVar 0)) (aCons (oLend 1) (aCons (oVal (eC (.int 6))) aNil))))) (oVal (eVar 3)))) (bAnd (bOf (eOp2 eqD (oVal (eVar 7)) (oVal (eOp2 subD (oVal (eVar 6)) (oVal (eC (.int 1))))))) (bOf (eOp2 gtD (oVal (eCall 3 (some (1, 1)) m__law_draw (aCons (oVal (eVar 0)) (aCons (oLend 1) (aCons (oVal (eC (.int 5))) aNil))))) (oVal (eC (.int 0))))))) (sDrop (eMut 5 appD (aCons (oVal (eTup (aCons (oVal (eVar 7)) (aCons (oVal (eVar 6)) aNil)))) aNil))) sNil)
abbrev envH (ns : List Int) (tw : List D) (m sh n : Int) (ps : List (Int × Int)) (x y : Option D) : PD.Env := [some (scr ns), some (.list tw), some (.int m), some (.int sh), some (.int n), some (.list (ps.map door)), x, y]
theorem inner_ok (ns : List Int) (tw : List D) (m sh n other one : Int) (ps : List (Int × Int)) (hl : tw.length + 2 < lim) (hp : ps.length < lim) :
    ∃ tw' ps', bodyIn (envH ns tw m sh n ps (some (.int other)) (some (.int one))) = .nx (envH ns tw' m sh n ps' (some (.int other)) (some (.int one))) ∧ tw'.length ≤ tw.length + 2 ∧ (ps' = ps ∨ ps' = ps ++ [(one, other)]) := by
  obtain ⟨r1, _, _, c1⟩ := draw_c ns tw 6 (by decide) (by omega)
  have hp' : ps.length + 1 ≤ lim := hp
  by_cases g1 : r1 < sh
  · refine ⟨tw ++ [.int 0], ps ++ [(one, other)], ?_, by simp, .inr rfl⟩
    simp [c1, ltD_int, boolD, g1, eMut, valsOf, lim, appD, List.map_append]
    simp [lim] at hp hp'
    simp [hp, hp']
  · by_cases g2 : one = other - 1
    · obtain ⟨r2, _, _, c2⟩ := draw_c ns (tw ++ [.int 0]) 5 (by decide) (by simp; omega)
      by_cases g3 : 0 < r2
      · refine ⟨tw ++ [.int 0] ++ [.int 0], ps ++ [(one, other)], ?_, by simp, .inr rfl⟩
        simp [c1, ltD_int, boolD, g1, eqD_int, g2, c2, gtD_int, g3, eMut, valsOf, lim, appD, List.map_append]
        simp [lim] at hp hp'
        simp [hp, hp']
      · refine ⟨tw ++ [.int 0] ++ [.int 0], ps, ?_, by simp, .inl rfl⟩
        simp [c1, ltD_int, boolD, g1, eqD_int, g2, c2, gtD_int, g3]
    · refine ⟨tw ++ [.int 0], ps, ?_, by simp, .inl rfl⟩
      have g2' : (one == other - 1) = false := by simpa using g2
      simp [c1, ltD_int, boolD, g1, eqD_int, g2']
end U

set_option maxRecDepth 100000
set_option linter.all false
set_option maxHeartbeats 4000000
namespace U
open PySem PySem.Spec PyProof.Rows L2 RZ PD
open PySem.W (dataLt alike alikeAll keyToks keyToksAll)
theorem rgD_at {a b : Int} {i : Nat} {d : D} (h : (rgD a b)[i]? = some d) : d = .int (a + i) ∧ i < (b - a).toNat := by
  obtain ⟨hi, e⟩ := List.getElem?_eq_some_iff.mp h
  rw [rgD_len] at hi
  refine ⟨?_, hi⟩
  rw [← e]
  simp [rgD]
theorem rgI_ok {a b : Int} (h1 : -1000 ≤ a ∧ a ≤ 1000) (h2 : -1000 ≤ b ∧ b ≤ 1000) : rgItems (.int a) (.int b) = some (rgD a b) := by
  have : rgOk a b = true := by
    unfold rgOk
    simp only [Bool.and_eq_true, decide_eq_true_eq]
    refine ⟨⟨⟨⟨by omega, by omega⟩, by omega⟩, by omega⟩, ?_⟩
    show (b - a).toNat ≤ 1000000
    omega
  simp [rgItems, this]
theorem loop_in (ns : List Int) (tw : List D) (m sh n : Int) (o : Nat) (ps : List (Int × Int)) (y : Option D) (ho : 1 ≤ o ∧ o ≤ 20) (hl : tw.length ≤ 5000) (hp : ps.length ≤ 1000) (hd : ∀ p ∈ ps, 0 ≤ p.1 ∧ p.1 < p.2 ∧ p.2 < o) (nd : ps.Nodup) :
    ∃ tw' ps' y', forGo (.nm 7) bodyIn (rgD 0 o) (envH ns tw m sh n ps (some (.int o)) y) = .nx (envH ns tw' m sh n ps' (some (.int o)) y') ∧ tw'.length ≤ tw.length + 2 * o ∧ ps'.length ≤ ps.length + o ∧ (∀ p ∈ ps', 0 ≤ p.1 ∧ p.1 < p.2 ∧ p.2 ≤ o) ∧ ps'.Nodup := by
  have hlen : (rgD 0 o).length = o := by rw [rgD_len]; omega
  obtain ⟨ρ', e, tw', ps', y', rfl, h1, h2, h3, h4⟩ := forGo_inv (T := .nm 7) (body := bodyIn) (fun j ρ => ∃ tw' ps' y', ρ = envH ns tw' m sh n ps' (some (.int o)) y' ∧ tw'.length ≤ tw.length + 2 * j ∧ ps'.length ≤ ps.length + j ∧ (∀ p ∈ ps', 0 ≤ p.1 ∧ p.1 < p.2 ∧ (p.2 < o ∨ (p.2 = o ∧ p.1 < j))) ∧ ps'.Nodup)
    (rgD 0 o) 0 (envH ns tw m sh n ps (some (.int o)) y) ⟨tw, ps, y, rfl, by omega, by omega, fun p h => by have := hd p h; exact ⟨this.1, this.2.1, .inl this.2.2⟩, nd⟩ (by
      rintro i d ρ hi ⟨tw1, ps1, y1, rfl, g1, g2, g3, g4⟩
      obtain ⟨rfl, hlt⟩ := rgD_at hi
      have hio : i < o := by omega
      obtain ⟨tw2, ps2, e2, g5, g6⟩ := inner_ok ns tw1 m sh n o (0 + i) ps1 (by show _ < 1000000; omega) (by show _ < 1000000; omega)
      refine ⟨envH ns tw1 m sh n ps1 (some (.int o)) (some (.int (0 + i))), _, by simp [bindT], .inl e2, tw2, ps2, _, rfl, by omega, ?_, ?_, ?_⟩
      · rcases g6 with rfl | rfl
        · omega
        · simp; omega
      · rcases g6 with rfl | rfl
        · intro p hp
          obtain ⟨a, b, c⟩ := g3 p hp
          refine ⟨a, b, c.imp id fun ⟨c, d⟩ => ⟨c, by omega⟩⟩
        · intro p hp
          rcases List.mem_append.mp hp with hp | hp
          · obtain ⟨a, b, c⟩ := g3 p hp
            exact ⟨a, b, c.imp id fun ⟨c, d⟩ => ⟨c, by omega⟩⟩
          · rw [List.mem_singleton.mp hp]
            exact ⟨by omega, by show (0 : Int) + i < o; omega, .inr ⟨rfl, by omega⟩⟩
      · rcases g6 with rfl | rfl
        · exact g4
        · refine List.nodup_append.mpr ⟨g4, by simp, ?_⟩
          intro p hp q hq he
          rw [List.mem_singleton.mp hq] at he
          obtain ⟨a, b, c⟩ := g3 p hp
          rw [he] at c
          rcases c with c | ⟨_, c⟩
          · exact absurd c (Int.lt_irrefl _)
          · simp at c)
  rw [hlen] at h1 h2 h3
  refine ⟨tw', ps', y', e, by omega, by omega, fun p hp => ?_, h4⟩
  obtain ⟨a, b, c⟩ := h3 p hp
  exact ⟨a, b, by rcases c with c | ⟨c, _⟩ <;> omega⟩
abbrev bodyOut : PD.Env → SR := sFor (.nm 7) (iRg1 (eVar 6)) bodyIn
theorem loop_out (ns : List Int) (tw : List D) (m sh : Int) (n : Nat) (hn : 2 ≤ n ∧ n ≤ 10) (hl : tw.length ≤ 2000) (x y : Option D) :
    ∃ tw' ps x' y', forGo (.nm 6) bodyOut (rgD 1 n) (envH ns tw m sh n [] x y) = .nx (envH ns tw' m sh n ps x' y') ∧ tw'.length ≤ tw.length + 400 ∧ ps.length ≤ 200 ∧ (∀ p ∈ ps, 0 ≤ p.1 ∧ p.1 < p.2 ∧ p.2 ≤ n - 1) ∧ ps.Nodup := by
  have hlen : (rgD 1 n).length = n - 1 := by rw [rgD_len]; omega
  obtain ⟨ρ', e, tw', ps', x', y', rfl, h1, h2, h3, h4⟩ := forGo_inv (T := .nm 6) (body := bodyOut) (fun i ρ => ∃ tw' ps' x' y', ρ = envH ns tw' m sh n ps' x' y' ∧ tw'.length ≤ tw.length + 40 * i ∧ ps'.length ≤ 20 * i ∧ (∀ p ∈ ps', 0 ≤ p.1 ∧ p.1 < p.2 ∧ p.2 < 1 + (i : Int)) ∧ ps'.Nodup)
    (rgD 1 n) 0 (envH ns tw m sh n [] x y) ⟨tw, [], x, y, rfl, by omega, by simp, fun p h => by simp at h, List.nodup_nil⟩ (by
      rintro i d ρ hi ⟨tw1, ps1, x1, y1, rfl, g1, g2, g3, g4⟩
      obtain ⟨rfl, hlt⟩ := rgD_at hi
      have hi9 : i ≤ 8 := by omega
      have eo : (1 : Int) + i = ((1 + i : Nat) : Int) := by omega
      obtain ⟨tw2, ps2, y2, e2, q1, q2, q3, q4⟩ := loop_in ns tw1 m sh n (1 + i) ps1 y1 (by omega) (by omega) (by omega) (fun p hp => by have := g3 p hp; simp at this ⊢; omega) g4
      refine ⟨envH ns tw1 m sh n ps1 (some (.int (1 + i))) y1, _, by simp [bindT], .inl ?_, tw2, ps2, some (.int (1 + i)), y2, rfl, by omega, by omega, fun p hp => ?_, q4⟩
      · rw [eo]
        have rg := rgI_ok (a := 0) (b := ((1 + i : Nat) : Int)) (by omega) (by omega)
        show bS (bnd (.ok (.int ((1 + i : Nat) : Int)) (envH ns tw1 m sh n ps1 (some (.int ((1 + i : Nat) : Int))) y1)) fun d ρ1 => ofO (rgItems (.int 0) d) ρ1) (fun ds ρ1 => forGo (.nm 7) bodyIn ds ρ1) = _
        rw [bnd_ok, rg, ofO_some, bS_ok]
        exact e2
      · have := q3 p hp
        simp at this ⊢
        omega)
  rw [hlen] at h1 h2 h3
  refine ⟨tw', ps', x', y', e, by omega, by omega, fun p hp => ?_, h4⟩
  have := h3 p hp
  omega
end U

set_option maxRecDepth 100000
set_option linter.all false
set_option maxHeartbeats 4000000
namespace U
open PySem PySem.Spec PyProof.Rows L2 RZ PD
open PySem.W (dataLt alike alikeAll keyToks keyToksAll)
theorem sortD_ok {n : Nat} {ds : List D} (hn : n ≤ 64) (h1 : ∀ d ∈ ds, shp n d = true) (h2 : ∀ a ∈ ds, ∀ b ∈ ds, alike a b = true) (h3 : ds.all neTup = true) : sortD [.list ds] = some (.list (ds.mergeSort dleD)) := by
  have : sortOk ds = true := by
    unfold sortOk
    rw [h3, Bool.true_or, Bool.and_true, Bool.and_eq_true]
    refine ⟨List.all_eq_true.mpr fun d hd => shaped_of (h1 d hd) hn, List.all_eq_true.mpr fun a ha => List.all_eq_true.mpr fun b hb => h2 a ha b hb⟩
  simp [sortD, this]
def undoor : D → Int × Int
  | .tuple [.int a, .int b] => (a, b)
  | _ => (0, 0)
theorem doors_toks {ps : List (Int × Int)} (h : ps.Nodup) : (ps.map door).Pairwise fun a b => keyToks a ≠ keyToks b := by
  rw [List.pairwise_map]
  refine List.Pairwise.imp (fun {a b} ne => toks_ne (door_alike a b) ?_) h
  have : ¬ (a.1 = b.1 ∧ a.2 = b.2) := fun ⟨h1, h2⟩ => ne (Prod.ext h1 h2)
  simp [PyData.eqv, PyData.eqvAll]
  exact fun h1 h2 => this ⟨h1, h2⟩
theorem house_eval (ns : List Int) (tw tw' L L20 : List D) (m sh r n : Int) (ps : List (Int × Int)) (x' y' : Option D)
    (c1 : ∀ (a : Option D) (ρ : PD.Env), callM 3 (some (1, 1)) m__law_draw [.val (scr ns), .lnd 1, .val (.int 4)] (a :: some (.list tw) :: ρ) = .ok (.int sh) (a :: some (.list (tw ++ [.int 0])) :: ρ))
    (c2 : ∀ (a : Option D) (ρ : PD.Env), callM 3 (some (1, 1)) m__law_draw [.val (scr ns), .lnd 1, .val (.int (m - 1))] (a :: some (.list (tw ++ [.int 0])) :: ρ) = .ok (.int r) (a :: some (.list (tw ++ [.int 0, .int 0])) :: ρ))
    (hn : 2 + r = n) (rg : rgItems (.int 1) (.int n) = some (rgD 1 n)) (so : sortD [.list (ps.map door)] = some (.list L)) (ct : PD.cutD L none (some 20) = L20)
    (e2 : forGo (.nm 6) bodyOut (rgD 1 n) [some (scr ns), some (.list (tw ++ [.int 0, .int 0])), some (.int m), some (.int sh), some (.int n), some (.list []), none, none] = .nx (envH ns tw' m sh n ps x' y')) :
    m__law_house [scr ns, .list tw, .int m] = .ok (.tuple [.int n, .tuple L20]) [none, some (.list tw'), none] := by
  simp [m__law_house, fnM, outE, body__law_house, c1, c2, hn, valsOf, rg, e2, derefs, so, slD, ct, tupleD, lim]
theorem house_c (ns : List Int) (tw : List D) (m : Int) (hm : 2 ≤ m ∧ m ≤ 9) (hl : tw.length ≤ 1500) : ∃ n ps tw', HsOk n ps ∧ tw'.length ≤ tw.length + 500 ∧ m__law_house [scr ns, .list tw, .int m] = .ok (hous n ps) [none, some (.list tw'), none] := by
  obtain ⟨sh, _, _, c1⟩ := draw_c ns tw 4 (by decide) (by show _ < 1000000; omega)
  obtain ⟨r, r0, r1, c2⟩ := draw_c ns (tw ++ [.int 0]) (m - 1) (by omega) (by show _ < 1000000; simp; omega)
  obtain ⟨n, hn⟩ : ∃ n : Nat, (n : Int) = 2 + r := ⟨(2 + r).toNat, by omega⟩
  obtain ⟨tw', ps, x', y', e, h1, h2, h3, h4⟩ := loop_out ns (tw ++ [.int 0] ++ [.int 0]) m sh n (by omega) (by simp; omega) none none
  have rg := rgI_ok (a := 1) (b := (n : Int)) (by omega) (by omega)
  have so := sortD_ok (n := 1) (ds := ps.map door) (by decide) (fun d hd => by obtain ⟨p, _, rfl⟩ := List.mem_map.mp hd; exact door_shp p) (fun a ha b hb => by
    obtain ⟨p, _, rfl⟩ := List.mem_map.mp ha
    obtain ⟨q, _, rfl⟩ := List.mem_map.mp hb
    exact door_alike p q) (List.all_eq_true.mpr fun d hd => by obtain ⟨p, _, rfl⟩ := List.mem_map.mp hd; rfl)
  have perm := List.mergeSort_perm (ps.map door) dleD
  have ct : PD.cutD ((ps.map door).mergeSort dleD) none (some 20) = ((ps.map door).mergeSort dleD).take 20 := by
    unfold PD.cutD
    rw [HT.sIx_none, show HT.sIx ((ps.map door).mergeSort dleD).length ((ps.map door).mergeSort dleD).length (some 20) = min 20 ((ps.map door).mergeSort dleD).length from HT.sIx_nat _ _ 20]
    simp
  have back : ((((ps.map door).mergeSort dleD).take 20).map undoor).map door = ((ps.map door).mergeSort dleD).take 20 := by
    rw [List.map_map]
    refine (List.map_congr_left fun d hd => ?_).trans (List.map_id _)
    obtain ⟨p, _, rfl⟩ := List.mem_map.mp (perm.mem_iff.mp (List.mem_of_mem_take hd))
    rfl
  refine ⟨n, (((ps.map door).mergeSort dleD).take 20).map undoor, tw', ⟨by omega, by omega, fun p hp => ?_, ?_, ?_⟩, by simp at h1; omega, ?_⟩
  · obtain ⟨d, hd, rfl⟩ := List.mem_map.mp hp
    obtain ⟨q, hq, rfl⟩ := List.mem_map.mp (perm.mem_iff.mp (List.mem_of_mem_take hd))
    exact h3 q hq
  · simp
    omega
  · rw [back]
    exact (sorted_rising (doors_toks h4)).sublist (List.take_sublist _ _)
  · show _ = Res.ok (PyData.tuple [.int n, .tuple (((((ps.map door).mergeSort dleD).take 20).map undoor).map door)]) _
    rw [back]
    rw [show tw ++ [.int 0] ++ [.int 0] = tw ++ [PyData.int 0, PyData.int 0] by simp] at e c2
    exact house_eval ns tw tw' _ _ m sh r n ps x' y' c1 c2 hn.symm rg so ct e
end U

set_option maxRecDepth 100000
set_option linter.all false
set_option maxHeartbeats 4000000
namespace U
open PySem PySem.Spec PyProof.Rows L2 RZ PD
open PySem.W (dataLt alike alikeAll keyToks keyToksAll)
theorem spot_cases {n : Int} {ps : List (Int × Int)} {z : D} (h : z ∈ spots n ps) : (∃ p ∈ ps, z = dspot p) ∨ ∃ i : Nat, (i : Int) < n - 1 ∧ z = rspot (.int (1 + i)) := by
  rcases List.mem_append.mp h with h | h
  · obtain ⟨p, hp, rfl⟩ := List.mem_map.mp h
    exact .inl ⟨p, hp, rfl⟩
  · obtain ⟨r, hr, rfl⟩ := List.mem_map.mp h
    unfold rgD at hr
    obtain ⟨i, hi, rfl⟩ := List.mem_map.mp hr
    have := List.mem_range.mp hi
    exact .inr ⟨i, by omega, rfl⟩
theorem spot_shp {n : Int} {ps : List (Int × Int)} {z : D} (h : z ∈ spots n ps) : shp 1 z = true := by
  rcases spot_cases h with ⟨p, _, rfl⟩ | ⟨i, _, rfl⟩ <;> simp [shp, shpAll, so1, so2]
theorem spot_alike {n : Int} {ps : List (Int × Int)} {y z : D} (h : y ∈ spots n ps) (h' : z ∈ spots n ps) : alike y z = true := by
  rcases spot_cases h with ⟨p, _, rfl⟩ | ⟨i, _, rfl⟩ <;> rcases spot_cases h' with ⟨q, _, rfl⟩ | ⟨j, _, rfl⟩ <;> simp [alike, alikeAll]
theorem spot_in {n : Int} {ps : List (Int × Int)} (h : HsOk n ps) {z : D} (hz : z ∈ spots n ps) : m_is_spot [hous n ps, z] = .ok (.bool true) [none, none] := by
  have h1 := h.lo
  rcases spot_cases hz with ⟨p, hp, rfl⟩ | ⟨i, hi, rfl⟩
  · have := is_spot_ok h "door" [.int p.1, .int p.2] (by simp [shp, shpAll, so1]) (by simp)
    have d := h.dr p hp
    have e : (([.int p.1, .int p.2] : List D).all fun x => wh x 0 n) = true := by simp [wh]; omega
    have e2 : ((spots n ps).any fun z => PyData.eqv z (.tuple [.str "door", .int p.1, .int p.2])) = true := List.any_eq_true.mpr ⟨_, hz, by simp [PyData.eqv, PyData.eqvAll]⟩
    rw [e, e2] at this
    exact this
  · have := is_spot_ok h "room" [.int (1 + i)] (by simp [shp, shpAll, so2]) (by simp)
    have e : (([.int (1 + i)] : List D).all fun x => wh x 0 n) = true := by simp [wh]; omega
    have e2 : ((spots n ps).any fun z => PyData.eqv z (.tuple [.str "room", .int (1 + i)])) = true := List.any_eq_true.mpr ⟨_, hz, by simp [PyData.eqv, PyData.eqvAll]⟩
    rw [e, e2] at this
    exact this
end U

set_option maxRecDepth 100000
set_option linter.all false
set_option maxHeartbeats 4000000
namespace U
open PySem PySem.Spec PyProof.Rows L2 RZ PD
open PySem.W (dataLt alike alikeAll keyToks keyToksAll)
theorem pick_c (ns : List Int) (tw some_ : List D) (h0 : some_ ≠ []) (hl : tw.length < lim) : ∃ d, d ∈ some_ ∧ ∀ (a : Option D) (ρ : PD.Env), callM 3 (some (1, 1)) m__law_pick [.val (scr ns), .lnd 1, .val (.list some_)] (a :: some (.list tw) :: ρ) = .ok d (a :: some (.list (tw ++ [.int 0])) :: ρ) := by
  obtain ⟨d, hd, hr⟩ := pick_ok ns tw some_ h0 hl
  exact ⟨d, hd, fun a ρ => by simp [callM, argIn, hr, putOut]⟩
def WaOk (n : Int) (ps : List (Int × Int)) (w : D) : Prop := ∃ z t, w = wat z (.str t) ∧ z ∈ spots n ps ∧ t ∈ beats10
theorem beats_so {t : Str} (h : t ∈ beats10) : PyData.strOk t = true := by
  unfold beats10 at h
  simp only [List.mem_cons, List.not_mem_nil, or_false] at h
  rcases h with rfl | rfl | rfl | rfl | rfl | rfl | rfl | rfl | rfl | rfl <;> decide +kernel
theorem wa_shp {n : Int} {ps : List (Int × Int)} {w : D} (h : WaOk n ps w) : shp 2 w = true := by
  obtain ⟨z, t, rfl, hz, ht⟩ := h
  have h1 := spot_shp hz
  have h2 := beats_so ht
  simp [shp, shpAll, h1, h2]
theorem wa_alike {n : Int} {ps : List (Int × Int)} {v w : D} (h : WaOk n ps v) (h' : WaOk n ps w) : alike v w = true := by
  obtain ⟨z, t, rfl, hz, ht⟩ := h
  obtain ⟨z', t', rfl, hz', ht'⟩ := h'
  have := spot_alike hz hz'
  simp [alike, alikeAll, this]
theorem notInD_shp {k m : Nat} {d : D} {es : List D} (h1 : shp k d = true) (h2 : shp m (.list es) = true) (hk : k ≤ 64 := by decide) (hm : m ≤ 64 := by decide) : notInD d (.list es) = some (.bool (!es.any fun z => PyData.eqv z d)) := by
  simp [notInD, shaped_of h1 hk, shaped_of h2 hm]
theorem watching_ok {n : Int} {ps : List (Int × Int)} (h : HsOk n ps) (ws : List D) (hw : ∀ w ∈ ws, WaOk n ps w) (hl : ws.length ≤ 12) (hp : ws.Pairwise fun a b => dataLt a b = true) : m_are_watching [hous n ps, .tuple ws] = .ok (.bool true) [none, none] := by
  have hl' : ¬ (12 : Int) < (ws.length : Int) := by omega
  have ri := rising_ok ws (fun a ha b hb => cmpOk_shp (wa_shp (hw a ha)) (wa_shp (hw b hb)) (by decide) (by decide) (wa_alike (hw a ha) (hw b hb)) (by obtain ⟨z, t, rfl, _⟩ := hw a ha; rfl)) hp
  have cr := fun ρ => call1 (ρ := ρ) ri
  have lc : lcGo (.nm 2) bYes (eCall 2 none m_is_watcher (aCons (oVal (eVar 0)) (aCons (oVal (eVar 2)) aNil))) [2] ws [some (hous n ps), some (.tuple ws), none] = .ok (ws.map fun _ => .bool true) [some (hous n ps), some (.tuple ws), none] := by
    refine lcGo_map (fun _ => .bool true) ws fun d hd => ?_
    obtain ⟨z, t, rfl, hz, ht⟩ := hw d hd
    have c := fun ρ => call2 (ρ := ρ) (watcher_c (spot_in h hz) ht)
    exact ⟨[some (hous n ps), some (.tuple ws), some (wat z (.str t))], [some (hous n ps), some (.tuple ws), some (wat z (.str t))], by simp [bindT], by simp [c], by simp [wipeD]⟩
  have at0 := allD_true ws
  simp [m_are_watching, fnM, outE, body_are_watching, isiD, isi, boolD, lenD, derefs, gtD_int, hl', itemsD, wipeD, lc, resD, at0, cr]
end U

set_option maxRecDepth 100000
set_option linter.all false
set_option maxHeartbeats 4000000
namespace U
open PySem PySem.Spec PyProof.Rows L2 RZ PD
open PySem.W (dataLt alike alikeAll keyToks keyToksAll)
theorem call1x {ρ os : PD.Env} {m : List D → Res D} {a : D} {c : Nat} (h : m [a] = .exc c os) : callM 1 none m [.val a] ρ = .exc c ρ := by simp [callM, argIn, h, putOut]
theorem call2x {ρ os : PD.Env} {m : List D → Res D} {a b : D} {c : Nat} (h : m [a, b] = .exc c os) : callM 2 none m [.val a, .val b] ρ = .exc c ρ := by simp [callM, argIn, h, putOut]
theorem call3x {ρ os : PD.Env} {m : List D → Res D} {a b e : D} {c : Nat} (h : m [a, b, e] = .exc c os) : callM 3 none m [.val a, .val b, .val e] ρ = .exc c ρ := by simp [callM, argIn, h, putOut]
theorem call4x {ρ os : PD.Env} {m : List D → Res D} {a b e f : D} {c : Nat} (h : m [a, b, e, f] = .exc c os) : callM 4 none m [.val a, .val b, .val e, .val f] ρ = .exc c ρ := by simp [callM, argIn, h, putOut]
theorem nw_bad {d w : D} (h : m_is_house [d] = .ok (.bool false) [none]) : m_need_watchers [d, w] = .exc 0 [none, none] := by
  have c := fun ρ => call1x (ρ := ρ) (need_house_no h)
  simp [m_need_watchers, fnM, outE, body_need_watchers, c]
theorem nw_no {n : Int} {ps : List (Int × Int)} {w : D} (h : HsOk n ps) (hw : m_are_watching [hous n ps, w] = .ok (.bool false) [none, none]) : m_need_watchers [hous n ps, w] = .exc 2 [none, none] := by
  have c := fun ρ => call1 (ρ := ρ) (need_house_ok h)
  have c2 := fun ρ => call2 (ρ := ρ) hw
  simp [m_need_watchers, fnM, outE, body_need_watchers, c, c2, boolD]
theorem nw_ok {n : Int} {ps : List (Int × Int)} {w : D} (h : HsOk n ps) (hw : m_are_watching [hous n ps, w] = .ok (.bool true) [none, none]) : m_need_watchers [hous n ps, w] = .ok .none [none, none] := by
  have c := fun ρ => call1 (ρ := ρ) (need_house_ok h)
  have c2 := fun ρ => call2 (ρ := ρ) hw
  simp [m_need_watchers, fnM, outE, body_need_watchers, c, c2, boolD]
/-! ### numbers sorted -/
theorem dle_int (a b : Int) : dleD (.int a) (.int b) = decide (a ≤ b) := by
  unfold dleD
  rw [PySem.W.dataLt_int]
  by_cases q : b < a <;> simp [q] <;> omega
theorem ints_ok (is : List Int) : sortOk (is.map PyData.int) = true := by
  unfold sortOk
  simp only [Bool.and_eq_true, Bool.or_eq_true, List.all_eq_true, List.mem_map, forall_exists_index, and_imp, forall_apply_eq_imp_iff₂]
  refine ⟨⟨fun i _ => rfl, fun i _ j _ => rfl⟩, .inr fun i _ => rfl⟩
theorem sort_ints {is : List Int} (h : is.Pairwise (· ≤ ·)) : (is.map PyData.int).mergeSort dleD = is.map PyData.int := by
  refine List.mergeSort_of_pairwise ?_
  rw [List.pairwise_map]
  exact h.imp fun q => by rw [dle_int]; exact decide_eq_true q
theorem sortT_ints (is : List Int) : sortAD [.tuple (is.map PyData.int)] = some (.list ((is.map PyData.int).mergeSort dleD)) := by
  simp only [sortAD, sortTD, ints_ok, if_true]
theorem sortD2 {a b : Int} (h : a ≤ b) : sortD [.list [.int a, .int b]] = some (.list [.int a, .int b]) := by
  have e : [PyData.int a, .int b] = [a, b].map PyData.int := rfl
  rw [e, sortD, ints_ok, if_pos rfl, sort_ints (by simp [h])]
def nums (n : Int) : List Int := (List.range (n - 0).toNat).map fun i => 0 + (i : Nat)
theorem rg_nums (n : Int) : rgD 0 n = (nums n).map PyData.int := by unfold rgD nums; rw [List.map_map]; rfl
theorem nums_len {n : Int} : (nums n).length = n.toNat := by simp [nums]
theorem nums_le (n : Int) : (nums n).Pairwise (· ≤ ·) := by
  unfold nums
  rw [List.pairwise_map]
  exact List.pairwise_lt_range.imp fun q => by omega
theorem nums_mem {n i : Int} (h : i ∈ nums n) : 0 ≤ i ∧ i < n := by
  obtain ⟨k, hk, rfl⟩ := List.mem_map.mp h
  have := List.mem_range.mp hk
  omega
theorem shp_ints (l : List D) (h : ∀ d ∈ l, ∃ i : Int, d = .int i) : shp 1 (.list l) = true := by
  simp only [shp]
  refine shpAll_iff.mpr fun d hd => ?_
  obtain ⟨i, rfl⟩ := h d hd
  simp [shp]
theorem sort_mem (is : List Int) : ∀ d ∈ (is.map PyData.int).mergeSort dleD, ∃ i : Int, d = .int i := fun d hd => by
  obtain ⟨i, _, rfl⟩ := List.mem_map.mp ((List.mergeSort_perm _ _).mem_iff.mp hd)
  exact ⟨i, rfl⟩
theorem rgI0 {n : Int} (h1 : 2 ≤ n) (h2 : n ≤ 10) : rgItems (.int 0) (.int n) = some (rgD 0 n) := rgI_ok (by decide) (by omega)
/-! ### need_names -/
abbrev elN : PD.Env → Res D := eCall 3 none m_is_whole (aCons (oVal (eVar 2)) (aCons (oVal (eC (.int 0))) (aCons (oVal (eOp2 subD (oVal (eOp2 ixD (oVal (eVar 0)) (oVal (eC (.int 0))))) (oVal (eC (.int 1))))) aNil)))
theorem lcN {n : Int} {ps : List (Int × Int)} (ds : List D) (z : D) (nd : ∀ d ∈ ds, ∀ es, d ≠ .dict es) : lcGo (.nm 2) bYes elN [2] ds [some (hous n ps), some z, none] = .ok (ds.map fun d => .bool (wh d 0 (n - 1))) [some (hous n ps), some z, none] := by
  refine lcGo_map (fun d => .bool (wh d 0 (n - 1))) _ fun d hd => ?_
  have c := fun ρ => call3 (ρ := ρ) (is_whole_ok d 0 (n - 1) (nd d hd))
  refine ⟨[some (hous n ps), some z, some d], [some (hous n ps), some z, some d], by simp [bindT], ?_, by simp [wipeD]⟩
  simp [ixD, atI0, c, subD]
theorem nn_type {n : Int} {ps : List (Int × Int)} {d : D} (h : isiD .tuple d = some (.bool false)) : m_need_names [hous n ps, d] = .exc 1 [none, none] := by
  simp [m_need_names, fnM, outE, body_need_names, h, boolD]
theorem nn_whole {n : Int} {ps : List (Int × Int)} {ds : List D} (nd : ∀ d ∈ ds, ∀ es, d ≠ .dict es) (h : ds.all (fun d => wh d 0 (n - 1)) = false) : m_need_names [hous n ps, .tuple ds] = .exc 1 [none, none] := by
  have lc := lcN (n := n) (ps := ps) ds (.tuple ds) nd
  have al := allD_map (fun d => wh d 0 (n - 1)) ds
  rw [h] at al
  simp [m_need_names, fnM, outE, body_need_names, isiD, isi, boolD, itemsD, wipeD, lc, resD, derefs, al, -List.map_map]
theorem nn_eval {n : Int} {ps : List (Int × Int)} (hn : 2 ≤ n ∧ n ≤ 10) (i : Int) (is : List Int) (hw : ∀ j ∈ i :: is, 0 ≤ j ∧ j < n) {x : Bool} (hx : neD (.list (((i :: is).map PyData.int).mergeSort dleD)) (.list (rgD 0 n)) = some (.bool x)) :
    m_need_names [hous n ps, .tuple ((i :: is).map PyData.int)] = if (x || !(i == 0)) = true then .exc 1 [none, none] else .ok .none [none, none] := by
  have lc := lcN (n := n) (ps := ps) ((i :: is).map PyData.int) (.tuple ((i :: is).map PyData.int)) (fun d hd es e => by
    obtain ⟨j, _, rfl⟩ := List.mem_map.mp hd; cases e)
  have al := allD_map (fun d => wh d 0 (n - 1)) ((i :: is).map PyData.int)
  have h : (((i :: is).map PyData.int).all fun d => wh d 0 (n - 1)) = true := by
    rw [List.all_eq_true]
    intro d hd
    obtain ⟨j, hj, rfl⟩ := List.mem_map.mp hd
    have := hw j hj
    simp [wh]; omega
  rw [h] at al
  have s := sortT_ints (i :: is)
  have r := rgI0 hn.1 hn.2
  generalize hS : ((i :: is).map PyData.int).mergeSort dleD = S at hx s
  have ix : ixD (.tuple ((i :: is).map PyData.int)) (.int 0) = some (.int i) := by simp [ixD, atI0]
  generalize hT : (i :: is).map PyData.int = T at *
  have ix2 : ixD (hous n ps) (.int 0) = some (.int n) := by simp [ixD, atI0]
  cases x <;> by_cases hi : i = 0 <;> simp [m_need_names, fnM, outE, body_need_names, isiD, isi, boolD, itemsD, wipeD, lc, resD, derefs, al, s, eR1, rgLD, r, ix, ix2, hx, neD_int, hi, -List.map_map]
theorem ne_shp {n : Int} (l : List D) (h : ∀ d ∈ l, ∃ i : Int, d = .int i) : neD (.list l) (.list (rgD 0 n)) = some (.bool (!PyData.eqv (.list l) (.list (rgD 0 n)))) :=
  neD_shp (n := 1) (m := 1) (shp_ints l h) (shp_ints _ fun d hd => by
    rw [rg_nums] at hd
    obtain ⟨i, _, rfl⟩ := List.mem_map.mp hd
    exact ⟨i, rfl⟩)
end U

set_option maxRecDepth 100000
set_option linter.all false
set_option maxHeartbeats 4000000
namespace U
open PySem PySem.Spec PyProof.Rows L2 RZ PD
open PySem.W (dataLt alike alikeAll keyToks keyToksAll)
theorem eqvAll_len : ∀ (a b : List D), PyData.eqvAll a b = true → a.length = b.length
  | [], [], _ => rfl
  | [], _ :: _, h => by simp [PyData.eqvAll] at h
  | _ :: _, [], h => by simp [PyData.eqvAll] at h
  | _ :: a, _ :: b, h => by
    simp only [PyData.eqvAll, Bool.and_eq_true] at h
    simp [eqvAll_len a b h.2]
theorem eqvAll_ints : ∀ (is : List Int), PyData.eqvAll (is.map PyData.int) (is.map PyData.int) = true
  | [] => rfl
  | i :: is => by simp [PyData.eqvAll, PyData.eqv, eqvAll_ints is]
theorem nn_bad {n : Int} {ps : List (Int × Int)} (hn : 2 ≤ n ∧ n ≤ 10) {is : List Int} (h0 : is ≠ []) (hw : ∀ j ∈ is, 0 ≤ j ∧ j < n) (h : is.length ≠ n.toNat ∨ is.head? ≠ some 0) : m_need_names [hous n ps, .tuple (is.map PyData.int)] = .exc 1 [none, none] := by
  cases is with
  | nil => exact absurd rfl h0
  | cons i is =>
    rw [nn_eval hn i is hw (ne_shp _ (sort_mem _))]
    refine if_pos ?_
    rcases h with h | h
    · have : PyData.eqv (.list (((i :: is).map PyData.int).mergeSort dleD)) (.list (rgD 0 n)) = false := by
        rw [Bool.eq_false_iff]
        intro e
        simp only [PyData.eqv] at e
        have := eqvAll_len _ _ e
        rw [List.length_mergeSort, List.length_map, rg_nums, List.length_map, nums_len] at this
        exact h this
      rw [this]; rfl
    · have : (i == 0) = false := by simpa using h
      rw [this]; simp
theorem nums_cons {n : Int} (h : 2 ≤ n) : ∃ r, nums n = 0 :: r ∧ r ≠ [] ∧ r.length + 1 = n.toNat := by
  have hl := nums_len (n := n)
  cases e : nums n with
  | nil => rw [e] at hl; simp at hl; omega
  | cons a r =>
    rw [e] at hl
    have : (nums n)[0]? = some a := by rw [e]; rfl
    have h2 : (nums n)[0]? = some 0 := by
      unfold nums
      rw [List.getElem?_map, List.getElem?_range (by omega)]; rfl
    rw [this] at h2
    cases h2
    refine ⟨r, rfl, fun e => ?_, by simpa using hl⟩
    subst e; simp at hl; omega
abbrev nms (n : Int) : D := .tuple ((nums n).map PyData.int)
theorem nn_good {n : Int} {ps : List (Int × Int)} (hn : 2 ≤ n ∧ n ≤ 10) : m_need_names [hous n ps, nms n] = .ok .none [none, none] := by
  obtain ⟨r, e, _, _⟩ := nums_cons hn.1
  have hw : ∀ j ∈ (0 : Int) :: r, 0 ≤ j ∧ j < n := fun j hj => nums_mem (e ▸ hj)
  have s := sort_ints (nums_le n)
  have q : neD (.list (((0 :: r).map PyData.int).mergeSort dleD)) (.list (rgD 0 n)) = some (.bool false) := by
    rw [← e, ne_shp _ (sort_mem _), s, rg_nums]
    simp [PyData.eqv, eqvAll_ints]
  have := nn_eval (ps := ps) hn 0 r hw q
  rw [← e] at this
  rw [this]; rfl
/-! ### the wrong names -/
theorem cutLast (ds : List D) : PD.cutD ds none (some (-1)) = ds.dropLast := by
  unfold PD.cutD
  rw [HT.sIx_none, List.drop_zero, Nat.sub_zero, List.dropLast_eq_take]
  congr 1
  show ((-1 : Int) + (ds.length : Int)).toNat = _
  omega
def oddN (n : Int) : List D := [.none, .tuple ((nums n).map PyData.int).tail, .tuple ((nums n).map PyData.int ++ [.int 0]), .list ((nums n).map PyData.int), .tuple ((nums n).map PyData.int).reverse,
  .tuple (((nums n).map PyData.int).dropLast ++ [.int n]), .tuple (((nums n).map PyData.int).dropLast ++ [.none])]
theorem oddN_no {n : Int} {ps : List (Int × Int)} (hn : 2 ≤ n ∧ n ≤ 10) (d : D) (h : d ∈ oddN n) : m_need_names [hous n ps, d] = .exc 1 [none, none] := by
  obtain ⟨r, e, r0, rl⟩ := nums_cons hn.1
  have hm : ∀ j ∈ nums n, 0 ≤ j ∧ j < n := fun j hj => nums_mem hj
  unfold oddN at h
  simp only [List.mem_cons, List.not_mem_nil, or_false] at h
  rcases h with rfl | rfl | rfl | rfl | rfl | rfl | rfl
  · exact nn_type rfl
  · have : ((nums n).map PyData.int).tail = r.map PyData.int := by rw [e]; rfl
    rw [this]
    exact nn_bad hn r0 (fun j hj => hm j (by rw [e]; exact List.mem_cons_of_mem _ hj)) (.inl (by omega))
  · have : (nums n).map PyData.int ++ [.int 0] = (nums n ++ [0]).map PyData.int := by simp
    rw [this]
    refine nn_bad hn (by simp) (fun j hj => ?_) (.inl (by rw [List.length_append, nums_len]; simp))
    rcases List.mem_append.mp hj with hj | hj
    · exact hm j hj
    · simp at hj; omega
  · exact nn_type rfl
  · rw [← List.map_reverse]
    refine nn_bad hn (by simp [e]) (fun j hj => hm j (by simpa using hj)) (.inr ?_)
    rw [List.head?_reverse]
    intro q
    have : (nums n).getLast? = some (n - 1) := by
      rw [List.getLast?_eq_getElem?, nums_len]
      unfold nums
      rw [List.getElem?_map, List.getElem?_range (by omega)]
      simp; omega
    rw [this] at q
    have := Option.some.inj q
    omega
  · refine nn_whole (fun d hd es he => ?_) ?_
    · subst he
      rcases List.mem_append.mp hd with hd | hd
      · obtain ⟨j, _, q⟩ := List.mem_map.mp (List.dropLast_subset _ hd); cases q
      · simp at hd
    · rw [List.all_append]
      have : wh (.int n) 0 (n - 1) = false := by simp [wh]; omega
      simp [this]
  · refine nn_whole (fun d hd es he => ?_) ?_
    · subst he
      rcases List.mem_append.mp hd with hd | hd
      · obtain ⟨j, _, q⟩ := List.mem_map.mp (List.dropLast_subset _ hd); cases q
      · simp at hd
    · rw [List.all_append]
      have : wh .none 0 (n - 1) = false := rfl
      simp [this]
end U

set_option maxRecDepth 100000
set_option linter.all false
set_option maxHeartbeats 4000000
namespace U
open PySem PySem.Spec PyProof.Rows L2 RZ PD
open PySem.W (dataLt alike alikeAll keyToks keyToksAll)
/-! ### ways -/
def oddY : List D := [.none, .tuple [], .list [.int 0], .tuple [.int 1], .tuple [.int 0, .int 99], .tuple [.int 0, .int (-1)], .tuple [.int 0, .bool true], .tuple (List.replicate 41 (.int 0)), .str "0"]
theorem lcY {n : Int} {ps : List (Int × Int)} (ds : List D) (z : D) (nd : ∀ d ∈ ds, ∀ es, d ≠ .dict es) : lcGo (.nm 2) bYes elN [2] ds [some (hous n ps), some z, none, none, none] = .ok (ds.map fun d => .bool (wh d 0 (n - 1))) [some (hous n ps), some z, none, none, none] := by
  refine lcGo_map (fun d => .bool (wh d 0 (n - 1))) _ fun d hd => ?_
  have c := fun ρ => call3 (ρ := ρ) (is_whole_ok d 0 (n - 1) (nd d hd))
  refine ⟨[some (hous n ps), some z, some d, none, none], [some (hous n ps), some z, some d, none, none], by simp [bindT], ?_, by simp [wipeD]⟩
  simp [ixD, atI0, c, subD]
theorem way_type {n : Int} {ps : List (Int × Int)} {d : D} (h : isiD .tuple d = some (.bool false)) : m_is_way [hous n ps, d] = .ok (.bool false) [none, none] := by
  simp [m_is_way, fnM, outE, body_is_way, h, boolD]
theorem way_len {n : Int} {ps : List (Int × Int)} {ds : List D} (h : ds.length = 0 ∨ 40 < ds.length) : m_is_way [hous n ps, .tuple ds] = .ok (.bool false) [none, none] := by
  have g : (decide ((1 : Int) ≤ ds.length) && decide ((ds.length : Int) ≤ 40)) = false := by
    rcases h with h | h
    · simp [h]
    · have : ¬ ((ds.length : Int) ≤ 40) := by omega
      simp [this]
  by_cases q1 : (1 : Int) ≤ ds.length
  · have q2 : ¬ ((ds.length : Int) ≤ 40) := by intro q; simp [q1, q] at g
    simp [m_is_way, fnM, outE, body_is_way, isiD, isi, boolD, lenD, derefs, leD_int, q1, q2]
  · simp [m_is_way, fnM, outE, body_is_way, isiD, isi, boolD, lenD, derefs, leD_int, q1]
theorem way_whole {n : Int} {ps : List (Int × Int)} {ds : List D} (h1 : 1 ≤ ds.length ∧ ds.length ≤ 40) (nd : ∀ d ∈ ds, ∀ es, d ≠ .dict es) (h : ds.all (fun d => wh d 0 (n - 1)) = false) : m_is_way [hous n ps, .tuple ds] = .ok (.bool false) [none, none] := by
  have lc := lcY (n := n) (ps := ps) ds (.tuple ds) nd
  have al := allD_map (fun d => wh d 0 (n - 1)) ds
  rw [h] at al
  have q1 : (1 : Int) ≤ ds.length := by omega
  have q2 : (ds.length : Int) ≤ 40 := by omega
  simp [m_is_way, fnM, outE, body_is_way, isiD, isi, boolD, lenD, derefs, leD_int, q1, q2, itemsD, wipeD, lc, resD, al, -List.map_map]
theorem way_one {n : Int} {ps : List (Int × Int)} (hn : 2 ≤ n) : m_is_way [hous n ps, .tuple [.int 1]] = .ok (.bool false) [none, none] := by
  have lc := lcY (n := n) (ps := ps) [.int 1] (.tuple [.int 1]) (by simp)
  have al := allD_map (fun d => wh d 0 (n - 1)) [.int 1]
  have h : [PyData.int 1].all (fun d => wh d 0 (n - 1)) = true := by simp [wh]; omega
  rw [h] at al
  simp only [List.map_cons, List.map_nil] at lc al
  simp [m_is_way, fnM, outE, body_is_way, isiD, isi, boolD, lenD, derefs, leD_int, itemsD, wipeD, lc, resD, al, ixD, atI0, neD_int]
theorem oddY_no {n : Int} {ps : List (Int × Int)} (h : 2 ≤ n ∧ n ≤ 10) (d : D) (hd : d ∈ oddY) : m_is_way [hous n ps, d] = .ok (.bool false) [none, none] := by
  unfold oddY at hd
  simp only [List.mem_cons, List.not_mem_nil, or_false] at hd
  rcases hd with rfl | rfl | rfl | rfl | rfl | rfl | rfl | rfl | rfl
  · exact way_type rfl
  · exact way_len (.inl rfl)
  · exact way_type rfl
  · exact way_one h.1
  · exact way_whole (by simp) (by simp) (by simp [wh]; omega)
  · exact way_whole (by simp) (by simp) (by simp [wh])
  · exact way_whole (by simp) (by simp) (by simp [wh])
  · exact way_len (.inr (by simp))
  · exact way_type rfl
abbrev elZ : PD.Env → Res D := eOr (eOp2 eqD (oVal (eVar 3)) (oVal (eVar 4))) (eOp2 inD (oVal (eVar 4)) (oVal (eCall 2 none m_beside (aCons (oVal (eVar 0)) (aCons (oVal (eVar 3)) aNil)))))
theorem lcZ0 (e : PD.Env → Res D) (own : List Nat) (T : Tg) (ρ : PD.Env) : lcGo T bYes e own [] ρ = .ok [] ρ := rfl
theorem lcZ1 (h z : D) : lcGo (.tp [.nm 3, .nm 4]) bYes elZ [3, 4] [.tuple [.int 0, .int 0]] [some h, some z, none, none, none] = .ok [.bool true] [some h, some z, none, none, none] := by
  have := lcGo_map (T := .tp [.nm 3, .nm 4]) (elt := elZ) (own := [3, 4]) (ρ := [some h, some z, none, none, none]) (fun _ => .bool true) [.tuple [.int 0, .int 0]] fun d hd => by
    simp only [List.mem_singleton] at hd
    subst hd
    exact ⟨[some h, some z, none, some (.int 0), some (.int 0)], [some h, some z, none, some (.int 0), some (.int 0)], by simp [bindT, bindTs], by simp [eqD_int], by simp [wipeD]⟩
  exact this
theorem way_0 {n : Int} {ps : List (Int × Int)} (hn : 2 ≤ n) : m_is_way [hous n ps, .tuple [.int 0]] = .ok (.bool true) [none, none] := by
  have lc := lcY (n := n) (ps := ps) [.int 0] (.tuple [.int 0]) (by simp)
  have al := allD_map (fun d => wh d 0 (n - 1)) [.int 0]
  have h : [PyData.int 0].all (fun d => wh d 0 (n - 1)) = true := by simp [wh]; omega
  rw [h] at al
  simp only [List.map_cons, List.map_nil] at lc al
  have a0 : allD [.list []] = some (.bool true) := rfl
  simp [m_is_way, fnM, outE, body_is_way, isiD, isi, boolD, lenD, derefs, leD_int, itemsD, wipeD, lc, resD, al, ixD, atI0, neD_int, slD, drop1, zipItems, zipD, lcZ0, a0]
theorem way_00 {n : Int} {ps : List (Int × Int)} (hn : 2 ≤ n) : m_is_way [hous n ps, .tuple [.int 0, .int 0]] = .ok (.bool true) [none, none] := by
  have lc := lcY (n := n) (ps := ps) [.int 0, .int 0] (.tuple [.int 0, .int 0]) (by simp)
  have al := allD_map (fun d => wh d 0 (n - 1)) [.int 0, .int 0]
  have h : [PyData.int 0, .int 0].all (fun d => wh d 0 (n - 1)) = true := by simp [wh]; omega
  rw [h] at al
  simp only [List.map_cons, List.map_nil] at lc al
  have a0 : allD [.list [.bool true]] = some (.bool true) := rfl
  have lz := lcZ1 (hous n ps) (.tuple [.int 0, .int 0])
  simp [m_is_way, fnM, outE, body_is_way, isiD, isi, boolD, lenD, derefs, leD_int, itemsD, wipeD, lc, resD, al, ixD, atI0, neD_int, slD, drop1, zipItems, zipD, lz, a0]
end U

set_option maxRecDepth 100000
set_option linter.all false
set_option maxHeartbeats 4000000
namespace U
open PySem PySem.Spec PyProof.Rows L2 RZ PD
open PySem.W (dataLt alike alikeAll keyToks keyToksAll)
theorem nums_at {n j : Int} (h : 0 ≤ j ∧ j < n) : ixD (nms n) (.int j) = some (.int j) := by
  have e : j = (j.toNat : Int) := by omega
  have g : ((nums n).map PyData.int)[j.toNat]? = some (.int j) := by
    unfold nums
    rw [List.getElem?_map, List.getElem?_map, List.getElem?_range (by omega)]
    simp; omega
  have hl : j < (((nums n).map PyData.int).length : Int) := by rw [List.length_map, nums_len]; omega
  show L2.atI ((nums n).map PyData.int) j = _
  unfold L2.atI ixN
  rw [if_pos h.1, if_pos hl]
  exact g
theorem cut2 (a b : D) : PD.cutD [a, b] (some (-2)) none = [a, b] := rfl
theorem cut0 (a b : D) : PD.cutD [a, b] none (some (-2)) = [] := rfl
theorem called_ok {n : Int} {p : Int × Int} (h : 0 ≤ p.1 ∧ p.1 < p.2 ∧ p.2 ≤ n - 1) : m_called [door p, nms n] = .ok (door p) [none, none] := by
  obtain ⟨a, b⟩ := p
  obtain ⟨h1, h2, h3⟩ := h
  simp only at h1 h2 h3
  have i1 := nums_at (n := n) (j := a) ⟨h1, by omega⟩
  have i2 := nums_at (n := n) (j := b) ⟨by omega, by omega⟩
  have so := sortD2 (a := a) (b := b) (by omega)
  have q : eqD (.int a) (.str "room") = some (.bool false) := by
    rw [eqD_shp (n := 1) (m := 1) (by simp [shp]) (by simp [shp, so2])]
    simp [PyData.eqv]
  have ng : negD (.int 2) = some (.int (-2)) := rfl
  have lc : lcGo (.nm 3) bYes (eOp2 ixD (oVal (eVar 1)) (oVal (eVar 3))) [3] [.int a, .int b] [some (door (a, b)), some (nms n), none, none] = .ok [.int a, .int b] [some (door (a, b)), some (nms n), none, none] := by
    have := lcGo_map (T := .nm 3) (elt := eOp2 ixD (oVal (eVar 1)) (oVal (eVar 3))) (own := [3]) (ρ := [some (door (a, b)), some (nms n), none, none]) (fun d => d) [.int a, .int b] fun d hd => by
      refine ⟨[some (door (a, b)), some (nms n), none, some d], [some (door (a, b)), some (nms n), none, some d], by simp [bindT], ?_, by simp [wipeD]⟩
      simp only [List.mem_cons, List.not_mem_nil, or_false] at hd
      rcases hd with rfl | rfl
      · simp [i1]
      · simp [i2]
    simpa using this
  have ix0 : ixD (door (a, b)) (.int 0) = some (.int a) := by simp [ixD, atI0]
  have sl1 : slD (door (a, b)) (some (-2)) none = some (.tuple [.int a, .int b]) := by simp [slD, cut2]
  have sl2 : slD (door (a, b)) none (some (-2)) = some (.tuple []) := by simp [slD, cut0]
  have jx0 : ixD (.list [.int a, .int b]) (.int 0) = some (.int a) := by simp [ixD, atI0]
  have jx1 : ixD (.list [.int a, .int b]) (.int 1) = some (.int b) := by simp [ixD, atI1]
  have ad : addD (.tuple []) (.tuple [.int a, .int b]) = some (.tuple [.int a, .int b]) := by simp [addD, lim]
  generalize nms n = N at *
  simp [m_called, fnM, outE, body_called, boolD, ix0, q, ng, sl1, sl2, itemsD, wipeD, lc, resD, derefs, so, jx0, jx1, valsOf, lim, ad]
theorem sort_doors {n : Int} {ps : List (Int × Int)} (h : HsOk n ps) : sortD [.list (ps.map door)] = some (.list (ps.map door)) := by
  have hd : ∀ d ∈ ps.map door, ∃ p, d = door p := fun d hd => by
    obtain ⟨p, _, rfl⟩ := List.mem_map.mp hd; exact ⟨p, rfl⟩
  rw [sortD_ok (n := 1) (by decide) (fun d hd' => by obtain ⟨p, rfl⟩ := hd d hd'; exact door_shp p) (fun a ha b hb => by
    obtain ⟨p, rfl⟩ := hd a ha
    obtain ⟨q, rfl⟩ := hd b hb
    exact door_alike p q) (List.all_eq_true.mpr fun d hd' => by obtain ⟨p, rfl⟩ := hd d hd'; rfl)]
  rw [List.mergeSort_of_pairwise]
  refine h.ri.imp fun {a b} q => ?_
  have t := dle_total a b
  have : dleD b a = false := by unfold dleD; rw [q]; rfl
  rw [this, Bool.or_false] at t
  exact t
theorem renamed_ok {n : Int} {ps : List (Int × Int)} (h : HsOk n ps) : m_renamed [hous n ps, nms n] = .ok (hous n ps) [none, none] := by
  have c1 := fun ρ => call1 (ρ := ρ) (need_house_ok h)
  have c2 := fun ρ => call2 (ρ := ρ) (nn_good (ps := ps) ⟨h.lo, h.hi⟩)
  have lc : lcGo (.nm 2) bYes (eCall 2 none m_called (aCons (oVal (eVar 2)) (aCons (oVal (eVar 1)) aNil))) [2] (ps.map door) [some (hous n ps), some (nms n), none] = .ok (ps.map door) [some (hous n ps), some (nms n), none] := by
    have := lcGo_map (T := .nm 2) (elt := eCall 2 none m_called (aCons (oVal (eVar 2)) (aCons (oVal (eVar 1)) aNil))) (own := [2]) (ρ := [some (hous n ps), some (nms n), none]) (fun d => d) (ps.map door) fun d hd => by
      obtain ⟨p, hp, rfl⟩ := List.mem_map.mp hd
      have c := fun ρ => call2 (ρ := ρ) (called_ok (h.dr p hp))
      exact ⟨[some (hous n ps), some (nms n), some (door p)], [some (hous n ps), some (nms n), some (door p)], by simp [bindT], by simp [c], by simp [wipeD]⟩
    rw [List.map_id'] at this
    exact this
  have so := sort_doors h
  have ix0 : ixD (hous n ps) (.int 0) = some (.int n) := by simp [ixD, atI0]
  have ix1 : ixD (hous n ps) (.int 1) = some (.tuple (ps.map door)) := by simp [ixD, atI1]
  generalize nms n = N at *
  generalize hT : ps.map door = T at so ix1 lc
  simp [m_renamed, fnM, outE, body_renamed, c1, c2, ix0, ix1, itemsD, wipeD, lc, resD, derefs, so, tupleD, valsOf, lim, hT]
theorem renamed_way_ok {n : Int} {ps : List (Int × Int)} (h : HsOk n ps) : m_renamed_way [hous n ps, .tuple [.int 0, .int 0], nms n] = .ok (.tuple [.int 0, .int 0]) [none, none, none] := by
  have c1 := fun ρ => call1 (ρ := ρ) (need_house_ok h)
  have c2 := fun ρ => call2 (ρ := ρ) (nn_good (ps := ps) ⟨h.lo, h.hi⟩)
  have c3 := fun ρ => call2 (ρ := ρ) (way_00 (ps := ps) h.lo)
  have i0 := nums_at (n := n) (j := 0) ⟨by omega, by have := h.lo; omega⟩
  have lc : lcGo (.nm 3) bYes (eOp2 ixD (oVal (eVar 2)) (oVal (eVar 3))) [3] [.int 0, .int 0] [some (hous n ps), some (.tuple [.int 0, .int 0]), some (nms n), none] = .ok [.int 0, .int 0] [some (hous n ps), some (.tuple [.int 0, .int 0]), some (nms n), none] := by
    have := lcGo_map (T := .nm 3) (elt := eOp2 ixD (oVal (eVar 2)) (oVal (eVar 3))) (own := [3]) (ρ := [some (hous n ps), some (.tuple [.int 0, .int 0]), some (nms n), none]) (fun d => d) [.int 0, .int 0] fun d hd => by
      refine ⟨[some (hous n ps), some (.tuple [.int 0, .int 0]), some (nms n), some d], [some (hous n ps), some (.tuple [.int 0, .int 0]), some (nms n), some d], by simp [bindT], ?_, by simp [wipeD]⟩
      simp only [List.mem_cons, List.not_mem_nil, or_false, or_self] at hd
      subst hd
      simp [i0]
    simpa using this
  generalize nms n = N at *
  simp [m_renamed_way, fnM, outE, body_renamed_way, c1, c2, c3, boolD, itemsD, wipeD, lc, resD, derefs, tupleD]
/-! ### ask -/
theorem ask0_x {h w b : D} {c : Nat} {os : PD.Env} (p : m_renamed [h, b] = .exc c os) : m__law_ask [.int 0, h, w, b] = .ok (whD c) [none, none, none, none] := by
  have c1 := fun ρ => call2x (ρ := ρ) p
  simp [m__law_ask, fnM, outE, body__law_ask, sTry, eqD_int, boolD, c1, sWh, sClr]
theorem ask1_x {h w b : D} {c : Nat} {os : PD.Env} (p : m_renamed_watchers [h, w, b] = .exc c os) : m__law_ask [.int 1, h, w, b] = .ok (whD c) [none, none, none, none] := by
  have c1 := fun ρ => call3x (ρ := ρ) p
  simp [m__law_ask, fnM, outE, body__law_ask, sTry, eqD_int, boolD, eCallIx, ixN, subD, c1, sWh, sClr]
theorem ask2_x {h w b : D} {c : Nat} {os : PD.Env} (p : m_renamed_way [h, w, b] = .exc c os) : m__law_ask [.int 2, h, w, b] = .ok (whD c) [none, none, none, none] := by
  have c1 := fun ρ => call3x (ρ := ρ) p
  simp [m__law_ask, fnM, outE, body__law_ask, sTry, eqD_int, boolD, eCallIx, ixN, subD, c1, sWh, sClr]
theorem ask0_ok {h w b d : D} {os : PD.Env} (p : m_renamed [h, b] = .ok d os) : m__law_ask [.int 0, h, w, b] = .ok d [none, none, none, none] := by
  have c1 := fun ρ => call2 (ρ := ρ) p
  simp [m__law_ask, fnM, outE, body__law_ask, sTry, eqD_int, boolD, c1, sWh, sClr]
theorem ask2_ok {h w b d : D} {os : PD.Env} (p : m_renamed_way [h, w, b] = .ok d os) : m__law_ask [.int 2, h, w, b] = .ok d [none, none, none, none] := by
  have c1 := fun ρ => call3 (ρ := ρ) p
  simp [m__law_ask, fnM, outE, body__law_ask, sTry, eqD_int, boolD, eCallIx, ixN, subD, c1, sWh, sClr]
theorem ask_bad {h w b : D} (hh : m_is_house [h] = .ok (.bool false) [none]) (k : Int) (hk : k = 0 ∨ k = 1 ∨ k = 2) : m__law_ask [.int k, h, w, b] = .ok (whD 0) [none, none, none, none] := by
  have c1 := fun ρ => call1x (ρ := ρ) (need_house_no hh)
  have c2 := fun ρ => call2x (ρ := ρ) (nw_bad (w := w) hh)
  rcases hk with rfl | rfl | rfl
  · exact ask0_x (os := [none, none]) (by simp [m_renamed, fnM, outE, body_renamed, c1])
  · exact ask1_x (os := [none, none, none]) (by simp [m_renamed_watchers, fnM, outE, body_renamed_watchers, c2])
  · exact ask2_x (os := [none, none, none]) (by simp [m_renamed_way, fnM, outE, body_renamed_way, c1])
theorem ask1_no {n : Int} {ps : List (Int × Int)} {w b : D} (h : HsOk n ps) (hw : m_are_watching [hous n ps, w] = .ok (.bool false) [none, none]) : m__law_ask [.int 1, hous n ps, w, b] = .ok (whD 2) [none, none, none, none] := by
  have c2 := fun ρ => call2x (ρ := ρ) (nw_no h hw)
  exact ask1_x (os := [none, none, none]) (by simp [m_renamed_watchers, fnM, outE, body_renamed_watchers, c2])
theorem ask2_no {n : Int} {ps : List (Int × Int)} {w b : D} (h : HsOk n ps) (hw : m_is_way [hous n ps, w] = .ok (.bool false) [none, none]) : m__law_ask [.int 2, hous n ps, w, b] = .ok (whD 3) [none, none, none, none] := by
  have c1 := fun ρ => call1 (ρ := ρ) (need_house_ok h)
  have c2 := fun ρ => call2 (ρ := ρ) hw
  exact ask2_x (os := [none, none, none]) (by simp [m_renamed_way, fnM, outE, body_renamed_way, c1, c2, boolD])
theorem ask0_n {n : Int} {ps : List (Int × Int)} {w b : D} (h : HsOk n ps) (hb : m_need_names [hous n ps, b] = .exc 1 [none, none]) : m__law_ask [.int 0, hous n ps, w, b] = .ok (whD 1) [none, none, none, none] := by
  have c1 := fun ρ => call1 (ρ := ρ) (need_house_ok h)
  have c2 := fun ρ => call2x (ρ := ρ) hb
  exact ask0_x (os := [none, none]) (by simp [m_renamed, fnM, outE, body_renamed, c1, c2])
theorem ask1_n {n : Int} {ps : List (Int × Int)} {b : D} (h : HsOk n ps) (hb : m_need_names [hous n ps, b] = .exc 1 [none, none]) : m__law_ask [.int 1, hous n ps, .tuple [], b] = .ok (whD 1) [none, none, none, none] := by
  have c1 := fun ρ => call2 (ρ := ρ) (nw_ok h (watching_ok h [] (by simp) (by simp) .nil))
  have c2 := fun ρ => call2x (ρ := ρ) hb
  exact ask1_x (os := [none, none, none]) (by simp [m_renamed_watchers, fnM, outE, body_renamed_watchers, c1, c2])
theorem ask2_n {n : Int} {ps : List (Int × Int)} {b : D} (h : HsOk n ps) (hb : m_need_names [hous n ps, b] = .exc 1 [none, none]) : m__law_ask [.int 2, hous n ps, .tuple [.int 0], b] = .ok (whD 1) [none, none, none, none] := by
  have c1 := fun ρ => call1 (ρ := ρ) (need_house_ok h)
  have c3 := fun ρ => call2 (ρ := ρ) (way_0 (ps := ps) h.lo)
  have c2 := fun ρ => call2x (ρ := ρ) hb
  exact ask2_x (os := [none, none, none]) (by simp [m_renamed_way, fnM, outE, body_renamed_way, c1, c2, c3, boolD])
end U

set_option maxRecDepth 100000
set_option linter.all false
set_option maxHeartbeats 4000000
namespace U
open PySem PySem.Spec PyProof.Rows L2 RZ PD
abbrev rf (k : Int) : D := .tuple [.str "refused", .int k]
theorem so5 : PyData.strOk "refused" = true := by decide +kernel
theorem rf_shp (k : Int) : shp 1 (rf k) = true := by simp [shp, shpAll, so5]
theorem rf_eqv (k : Int) : PyData.eqv (rf k) (rf k) = true := by simp [PyData.eqv, PyData.eqvAll]
theorem ref3 (c : Nat) (v : D) (hv : whD c = v) (hs : shp 1 v = true) (he : PyData.eqv v v = true) : neD (.list [whD c, whD c, whD c]) (.list [v, v, v]) = some (.bool false) := by
  rw [hv, neD_shp (n := 2) (m := 2) (by simp [shp, shpAll, hs]) (by simp [shp, shpAll, hs])]
  simp [PyData.eqv, PyData.eqvAll, he]
theorem ref1 (c : Nat) (v : D) (hv : whD c = v) (hs : shp 1 v = true) (he : PyData.eqv v v = true) : neD (whD c) v = some (.bool false) := by
  rw [hv, neD_shp (n := 1) (m := 1) hs hs, he]; rfl
theorem lc3 (sl : Nat) (env : D → PD.Env) (base : PD.Env) (e : PD.Env → Res D) (v : D) (h1 : ∀ d, bindT (.nm sl) d base = some (env d)) (h2 : ∀ k : Int, k = 0 ∨ k = 1 ∨ k = 2 → e (env (.int k)) = .ok v (env (.int k))) (h3 : ∀ d, wipeD (env d) [sl] = base) :
    lcGo (.nm sl) bYes e [sl] (rgD 0 3) base = .ok [v, v, v] base := by
  have := lcGo_map (T := .nm sl) (elt := e) (own := [sl]) (ρ := base) (fun _ => v) (rgD 0 3) fun d hd => by
    obtain ⟨i, hi, rfl⟩ := List.mem_map.mp (show d ∈ (List.range (3 - 0 : Int).toNat).map fun i => PyData.int (0 + (i : Nat)) from hd)
    have hi := List.mem_range.mp hi
    have hi : i < 3 := hi
    exact ⟨env _, env _, h1 _, h2 _ (by omega), h3 _⟩
  exact this
theorem mul3 (k : Int) : mulD (.list [rf k]) (.int 3) = some (.list [rf k, rf k, rf k]) := rfl
theorem mul41 : mulD (.tuple [.int 0]) (.int 41) = some (.tuple (List.replicate 41 (.int 0))) := rfl
theorem hous_shp (n : Int) (ps : List (Int × Int)) : shp 3 (hous n ps) = true := by
  simp only [shp, shpAll, Bool.and_true, Bool.true_and]
  refine shpAll_iff.mpr fun d hd => ?_
  obtain ⟨p, _, rfl⟩ := List.mem_map.mp hd
  exact door_shp p
theorem doors_eqv : ∀ ps : List (Int × Int), PyData.eqvAll (ps.map door) (ps.map door) = true
  | [] => rfl
  | p :: ps => by simp [PyData.eqvAll, PyData.eqv, doors_eqv ps]
theorem hous_eq (n : Int) (ps : List (Int × Int)) : eqD (hous n ps) (hous n ps) = some (.bool true) := by
  rw [eqD_shp (n := 3) (m := 3) (hous_shp n ps) (hous_shp n ps)]
  simp [PyData.eqv, PyData.eqvAll, doors_eqv]
theorem z2_eq : eqD (.tuple [.int 0, .int 0]) (.tuple [.int 0, .int 0]) = some (.bool true) := by
  rw [eqD_shp (n := 1) (m := 1) (by simp [shp, shpAll]) (by simp [shp, shpAll])]
  simp [PyData.eqv, PyData.eqvAll]
theorem law_eval (s H bad non wy wr N N1 N2 N3 N4 N5 N6 N7 : D) (n : Int) (t1 t3 t4 t5 t6 R : List D) (h41 : mulD (.tuple [.int 0]) (.int 41) = some (.tuple R))
    (hH : ixD H (.int 0) = some (.int n)) (hN : rgTD (.int n) = some N) (hN1 : slD N (some 1) none = some N1) (hN2 : addD N (.tuple [.int 0]) = some N2) (hN3 : listD [N] = some N3) (hN4 : revTD N = some N4)
    (hN5 : slD N none (some (-1)) = some N5) (hN6 : addD N5 (.tuple [.int n]) = some N6) (hN7 : addD N5 (.tuple [.none]) = some N7)
    (cH : ∀ (ρ : PD.Env), callM 3 (some (1, 1)) m__law_house [.val s, .lnd 1, .val (.int 6)] (some s :: some (.list []) :: ρ) = .ok H (some s :: some (.list t1) :: ρ))
    (cB : ∀ (ρ : PD.Env), callM 2 (some (1, 1)) m__law_odd_house [.val s, .lnd 1] (some s :: some (.list t1) :: ρ) = .ok bad (some s :: some (.list t3) :: ρ))
    (cN : ∀ (ρ : PD.Env), callM 2 (some (1, 1)) m__law_odd_watchers [.val s, .lnd 1] (some s :: some (.list t3) :: ρ) = .ok non (some s :: some (.list t4) :: ρ))
    (cY : ∀ (ρ : PD.Env), callM 3 (some (1, 1)) m__law_pick [.val s, .lnd 1, .val (.list [.none, .tuple [], .list [.int 0], .tuple [.int 1], .tuple [.int 0, .int 99], .tuple [.int 0, .int (-1)], .tuple [.int 0, .bool true], .tuple R, .str "0"])] (some s :: some (.list t4) :: ρ) = .ok wy (some s :: some (.list t5) :: ρ))
    (cW : ∀ (ρ : PD.Env), callM 3 (some (1, 1)) m__law_pick [.val s, .lnd 1, .val (.list [.none, N1, N2, N3, N4, N6, N7])] (some s :: some (.list t5) :: ρ) = .ok wr (some s :: some (.list t6) :: ρ))
    (q1 : ∀ k : Int, k = 0 ∨ k = 1 ∨ k = 2 → m__law_ask [.int k, bad, non, wr] = .ok (whD 0) [none, none, none, none])
    (q2 : m__law_ask [.int 1, H, non, wr] = .ok (whD 2) [none, none, none, none])
    (q3 : m__law_ask [.int 2, H, wy, wr] = .ok (whD 3) [none, none, none, none])
    (q4 : m__law_ask [.int 0, H, .none, wr] = .ok (whD 1) [none, none, none, none])
    (q5 : m__law_ask [.int 1, H, .tuple [], wr] = .ok (whD 1) [none, none, none, none])
    (q6 : m__law_ask [.int 2, H, .tuple [.int 0], wr] = .ok (whD 1) [none, none, none, none])
    (q7 : m__law_ask [.int 0, H, .none, N] = .ok H [none, none, none, none])
    (q8 : m__law_ask [.int 2, H, .tuple [.int 0, .int 0], N] = .ok (.tuple [.int 0, .int 0]) [none, none, none, none])
    (eH : eqD H H = some (.bool true)) : ∃ ρ, m_law [s] = .ok (.bool true) ρ := by
  have l1 := lc3 8 (fun d => [some s, some (.list t6), some H, some bad, some non, some wy, some N, some wr, some d, none]) [some s, some (.list t6), some H, some bad, some non, some wy, some N, some wr, none, none] (eCall 4 none m__law_ask (aCons (oVal (eVar 8)) (aCons (oVal (eVar 3)) (aCons (oVal (eVar 4)) (aCons (oVal (eVar 7)) aNil))))) (whD 0)
    (fun d => rfl) (fun k hk => by have c := fun ρ => call4 (ρ := ρ) (q1 k hk); simp [c]) (fun d => rfl)
  have c2 := fun ρ => call4 (ρ := ρ) q2
  have c3 := fun ρ => call4 (ρ := ρ) q3
  have c4 := fun ρ => call4 (ρ := ρ) q4
  have c5 := fun ρ => call4 (ρ := ρ) q5
  have c6 := fun ρ => call4 (ρ := ρ) q6
  have c7 := fun ρ => call4 (ρ := ρ) q7
  have c8 := fun ρ => call4 (ρ := ρ) q8
  have rg := rgI_ok (a := 0) (b := 3) (by decide) (by decide)
  have n0 := ref3 0 (rf 0) rfl (rf_shp 0) (rf_eqv 0)
  have n1 := ref1 2 (rf 1) rfl (rf_shp 1) (rf_eqv 1)
  have n2 := ref1 3 (rf 3) rfl (rf_shp 3) (rf_eqv 3)
  have n3 := ref3 1 (rf 10) rfl (rf_shp 10) (rf_eqv 10)
  have ng : negD (.int 1) = some (.int (-1)) := rfl
  have bd : bindT (.tp [.nm 3, .nm 4]) (.tuple [bad, non]) [some s, some (.list t4), some H, none, none, none, none, none, none, none] = some [some s, some (.list t4), some H, some bad, some non, none, none, none, none, none] := rfl
  have ad : addD (.list [.none, N1, N2, N3, N4]) (.list [N6, N7]) = some (.list [.none, N1, N2, N3, N4, N6, N7]) := rfl
  have z2 := z2_eq
  refine ⟨[none], ?_⟩
  simp [m_law, fnM, outE, body_law, valsOf, show (0 : Nat) ≤ lim by decide, show (1 : Nat) ≤ lim by decide, show (2 : Nat) ≤ lim by decide, show (5 : Nat) ≤ lim by decide, show (9 : Nat) ≤ lim by decide, cH, cB, cN, bd, ng, h41, cY, eR1, hH, hN, hN1, hN2, derefs, hN3, hN4, hN5, hN6, hN7, ad, cW, rg, wipeD, l1, c2, c3, c4, c5, c6, c7, c8, resD, mul3, n0, n1, n2, n3, eMut, appD, show (2 : Nat) < lim by decide, show (3 : Nat) ≤ lim by decide, eH, z2, boolD]
theorem law_ok (ns : List Int) : ∃ ρ, m_law [scr ns] = .ok (.bool true) ρ := by
  obtain ⟨n, ps, t2, H, g1, e1⟩ := house_c ns [] 6 (by decide) (by simp)
  have hn : 2 ≤ n ∧ n ≤ 10 := ⟨H.lo, H.hi⟩
  have l2 : t2.length < lim := by simp at g1; show _ < 1000000; omega
  obtain ⟨bad, hb, e3⟩ := odd_house_ok ns t2 l2
  have l3 : (t2 ++ [PyData.int 0]).length < lim := by simp at g1; show _ < 1000000; simp; omega
  obtain ⟨non, hno, e4⟩ := odd_watchers_ok ns (t2 ++ [.int 0]) l3
  have l4 : (t2 ++ [PyData.int 0] ++ [PyData.int 0]).length < lim := by simp at g1; show _ < 1000000; simp; omega
  obtain ⟨wy, hwy, e5⟩ := pick_c ns (t2 ++ [.int 0] ++ [.int 0]) oddY (by unfold oddY; simp) l4
  have l5 : (t2 ++ [PyData.int 0] ++ [PyData.int 0] ++ [PyData.int 0]).length < lim := by simp at g1; show _ < 1000000; simp; omega
  obtain ⟨wr, hwr, e6⟩ := pick_c ns (t2 ++ [.int 0] ++ [.int 0] ++ [.int 0]) (oddN n) (by unfold oddN; simp) l5
  have hw := oddN_no (ps := ps) hn wr hwr
  have cH : ∀ (ρ : PD.Env), callM 3 (some (1, 1)) m__law_house [.val (scr ns), .lnd 1, .val (.int 6)] (some (scr ns) :: some (.list []) :: ρ) = .ok (hous n ps) (some (scr ns) :: some (.list t2) :: ρ) := fun ρ => by simp [callM, argIn, e1, putOut]
  have cB : ∀ (ρ : PD.Env), callM 2 (some (1, 1)) m__law_odd_house [.val (scr ns), .lnd 1] (some (scr ns) :: some (.list t2) :: ρ) = .ok bad (some (scr ns) :: some (.list (t2 ++ [.int 0])) :: ρ) := fun ρ => by simp [callM, argIn, e3, putOut]
  have cN : ∀ (ρ : PD.Env), callM 2 (some (1, 1)) m__law_odd_watchers [.val (scr ns), .lnd 1] (some (scr ns) :: some (.list (t2 ++ [.int 0])) :: ρ) = .ok non (some (scr ns) :: some (.list (t2 ++ [.int 0] ++ [.int 0])) :: ρ) := fun ρ => by simp only [callM, argIn, e4, putOut]; simp [argIn, e4]
  have ln : ((nums n).map PyData.int).length ≤ 10 := by rw [List.length_map, nums_len]; omega
  refine law_eval (scr ns) (hous n ps) bad non wy wr (nms n) _ _ _ _ (.tuple ((nums n).map PyData.int).dropLast) _ _ n t2 _ _ _ _ _ mul41 (by simp [ixD, atI0]) ?_ (by simp only [slD, drop1]) ?_ rfl rfl (by simp only [slD, cutLast]) ?_ ?_ cH cB cN (fun ρ => e5 _ ρ) (fun ρ => e6 _ ρ)
    (fun k hk => ask_bad (oddH_no bad hb) k hk) (ask1_no H (oddW_no H non hno)) (ask2_no H (oddY_no hn wy hwy)) (ask0_n H hw) (ask1_n H hw) (ask2_n H hw) (ask0_ok (renamed_ok H)) (ask2_ok (renamed_way_ok H)) (hous_eq n ps)
  · unfold rgTD
    rw [rgI0 hn.1 hn.2, rg_nums]; rfl
  · exact if_pos (show _ ≤ 1000000 by simp at ln ⊢; omega)
  · exact if_pos (show _ ≤ 1000000 by simp at ln ⊢; omega)
  · exact if_pos (show _ ≤ 1000000 by simp at ln ⊢; omega)
end U

set_option Elab.async false
set_option linter.all false
set_option maxRecDepth 100000
set_option maxHeartbeats 4000000
namespace U
open PySem PySem.Spec PyProof.Rows L2 RZ PD
def top (i : Nat) : Stmt := PySem.Challenge.pw_unseenways_k28_names_refused.main.body.getD i (.Pass ⟨0, 0, 0, 0⟩)
abbrev s__law_cell_at : Stmt := top 39
abbrev s__law_mixed : Stmt := top 40
abbrev s__law_draw : Stmt := top 41
abbrev s__law_house : Stmt := top 43
abbrev s__law_pick : Stmt := top 42
abbrev s__law_odd_house : Stmt := top 46
abbrev s__law_odd_watchers : Stmt := top 47
abbrev s_is_whole : Stmt := top 18
abbrev s_is_rising : Stmt := top 19
abbrev s_is_door : Stmt := top 20
abbrev s_is_house : Stmt := top 21
abbrev s_need_house : Stmt := top 22
abbrev s_need_names : Stmt := top 33
abbrev s_called : Stmt := top 34
abbrev s_renamed : Stmt := top 35
abbrev s_all_spots : Stmt := top 23
abbrev s_is_spot : Stmt := top 24
abbrev s_is_watcher : Stmt := top 25
abbrev s_are_watching : Stmt := top 26
abbrev s_need_watchers : Stmt := top 27
abbrev s_renamed_watchers : Stmt := top 36
abbrev s_beside : Stmt := top 28
abbrev s_is_way : Stmt := top 31
abbrev s_renamed_way : Stmt := top 37
abbrev s__law_ask : Stmt := top 49
abbrev s_law : Stmt := top 50
abbrev s__law_which : Stmt := top 48
theorem rk_cases (k : Nat) : rk k = 0 ∨ rk k = 10 ∨ rk k = 1 ∨ rk k = 3 := by
  match k with
  | 0 => simp [rk]
  | 1 => simp [rk]
  | 2 => simp [rk]
  | _ + 3 => simp [rk]
def cls (A : Nat → Addr) : Nat → Value := fun k => .ref (A (rk k))
structure Txt (K : PySem.W.Frag) (mg : Str → Option Value) (A : Nat → Addr) (CW : Addr) : Prop where
  b_ValueError : mg "ValueError" = none
  b_all : mg "all" = none
  b_bool : mg "bool" = none
  b_int : mg "int" = none
  b_isinstance : mg "isinstance" = none
  b_len : mg "len" = none
  b_list : mg "list" = none
  b_range : mg "range" = none
  b_sorted : mg "sorted" = none
  b_str : mg "str" = none
  b_tuple : mg "tuple" = none
  b_zip : mg "zip" = none
  c_BEATS : ∃ tk, mg "BEATS" = some (.int 6 tk)
  c_DOORS : ∃ tk, mg "DOORS" = some (.int 20 tk)
  c_LONG : ∃ tk, mg "LONG" = some (.int 40 tk)
  c_ROOMS : ∃ tk, mg "ROOMS" = some (.int 10 tk)
  c_WATCHERS : ∃ tk, mg "WATCHERS" = some (.int 12 tk)
  f__law_cell_at : FnT K mg "_law_cell_at" s__law_cell_at ["_law_script", "_law_k"]
  f__law_mixed : FnT K mg "_law_mixed" s__law_mixed ["_law_script", "_law_k", "_law_many"]
  f__law_draw : FnT K mg "_law_draw" s__law_draw ["_law_script", "_law_town", "_law_many"]
  f__law_house : FnT K mg "_law_house" s__law_house ["_law_script", "_law_town", "_law_most"]
  f__law_pick : FnT K mg "_law_pick" s__law_pick ["_law_script", "_law_town", "_law_some"]
  f__law_odd_house : FnT K mg "_law_odd_house" s__law_odd_house ["_law_script", "_law_town"]
  f__law_odd_watchers : FnT K mg "_law_odd_watchers" s__law_odd_watchers ["_law_script", "_law_town"]
  f_is_whole : FnT K mg "is_whole" s_is_whole ["thing", "low", "most"]
  f_is_rising : FnT K mg "is_rising" s_is_rising ["thing"]
  f_is_door : FnT K mg "is_door" s_is_door ["rooms", "thing"]
  f_is_house : FnT K mg "is_house" s_is_house ["thing"]
  f_need_house : FnT K mg "need_house" s_need_house ["thing"]
  f_need_names : FnT K mg "need_names" s_need_names ["house", "names"]
  f_called : FnT K mg "called" s_called ["thing", "names"]
  f_renamed : FnT K mg "renamed" s_renamed ["house", "names"]
  f_all_spots : FnT K mg "all_spots" s_all_spots ["house"]
  f_is_spot : FnT K mg "is_spot" s_is_spot ["house", "thing"]
  f_is_watcher : FnT K mg "is_watcher" s_is_watcher ["house", "thing"]
  f_are_watching : FnT K mg "are_watching" s_are_watching ["house", "thing"]
  f_need_watchers : FnT K mg "need_watchers" s_need_watchers ["house", "thing"]
  f_renamed_watchers : FnT K mg "renamed_watchers" s_renamed_watchers ["house", "watchers", "names"]
  f_beside : FnT K mg "beside" s_beside ["house", "room"]
  f_is_way : FnT K mg "is_way" s_is_way ["house", "thing"]
  f_renamed_way : FnT K mg "renamed_way" s_renamed_way ["house", "way", "names"]
  f__law_ask : FnT K mg "_law_ask" s__law_ask ["_law_what", "_law_house_here", "_law_more", "_law_names"]
  f__law_which : FnT K mg "_law_which" s__law_which ["_law_e"]
  g_WayError : mg "WayError" = some (.ref CW)
  g_NoHouse : mg "NoHouse" = some (.ref (A 0))
  g_NoWatchers : mg "NoWatchers" = some (.ref (A 1))
  g_NoGoal : mg "NoGoal" = some (.ref (A 2))
  g_NoWay : mg "NoWay" = some (.ref (A 3))
  g_NoCount : mg "NoCount" = some (.ref (A 4))
  g_NoPaper : mg "NoPaper" = some (.ref (A 5))
  g_NoRoom : mg "NoRoom" = some (.ref (A 6))
  g_Never : mg "Never" = some (.ref (A 7))
  g_NoText : mg "NoText" = some (.ref (A 8))
  g_Nothing : mg "Nothing" = some (.ref (A 9))
  g_NoNames : mg "NoNames" = some (.ref (A 10))
  xc : ∀ k, PySem.W.excIn K (A (rk k)) [.type "ValueError", .type "Exception", .type "BaseException", .type "object"] "ValueError.__new__" = true
  kc : ∀ k, PySem.W.keepIn K (.ref (A (rk k))) = true
  sb : ∀ k, PySem.W.subIn K (.ref (A (rk k))) (.type "BaseException") = some true
  xm : ∀ k, PySem.W.exmOne K (.ref (A (rk k))) (.ref CW) = some true
  ec : ∀ k, ExcC K (A (rk k))
  kv : ∀ k, PySem.W.kitOne K (.ref (A (rk k))) (.type "ValueError") = some true
  ty : ∀ k, PySem.W.typeIn K (.ref (A (rk k))) = some (.type "type")
  kt : ∀ k j, j < 11 → PySem.W.kitOne K (.ref (A (rk k))) (.ref (A j)) = some (j == rk k)
section
variable {P : Program} {w : World} {K : PySem.W.Frag} {mg : Str → Option Value} {base : Heap} {A : Nat → Addr} {CW : Addr}
abbrev KW (P : Program) (w : World) (K : PySem.W.Frag) (mg : Str → Option Value) (base : Heap) (A : Nat → Addr) : Prop := ∃ f fd, mg "_law_which" = some (.ref f) ∧ PySem.W.keepIn K (.ref f) = true ∧ Binds K fd ["_law_e"] [] ∧ FnW P w K mg base 1 f fd ["_law_e"] (spW (P, w, K) (cls A) whD)
theorem sc_w : FnScope ["_law_e", "_law_own"] ["_law_e"] (defScope s__law_which) := ⟨rfl, rfl, rfl, by decide +kernel, rfl, by decide +kernel, by decide +kernel⟩
theorem ret_w (cn : Nat) : ∃ ρ, body_w cn (List.replicate (1 + 1) none) = .ret (whD cn) ρ := by
  unfold body_w whD
  rcases rk_cases cn with e | e | e | e <;> rw [e] <;> exact ⟨_, rfl⟩
theorem ok_w (T : Txt K mg A CW) : KW P w K mg base A := by
  obtain ⟨f, fd, Fn, g, b⟩ := T.f__law_which
  have sc := sc_w
  exact ⟨f, fd, g, Fn.kp, b, fn_okW (N := ["_law_e", "_law_own"]) (lev := 0) (k := 1) (body := body_w) (Γ := Γ_w) Fn sc rfl (fun cdv A0 outer s H E O q cn hr hz hf =>
    (dss_cons (ds_set sc.nd (i := 1) (by exact rfl) (by exact Or.inl rfl) (by exact rfl) (by exact Or.inl rfl) (dx_lst (da_cons (do_val (dx_isE (i := 0) (D := A (rk cn)) (T.ec cn) hz hf List.mem_cons_self (by exact rfl) (by exact rfl) (by exact Or.inl rfl) (by exact rfl) T.b_isinstance (by exact rfl) (pe_glob (v := .ref (A 0)) (by exact rfl) T.g_NoHouse (by exact rfl)) (fun u r => r) (T.kt cn 0 (by decide)))) (da_cons (do_val (dx_isE (i := 0) (D := A (rk cn)) (T.ec cn) hz hf List.mem_cons_self (by exact rfl) (by exact rfl) (by exact Or.inl rfl) (by exact rfl) T.b_isinstance (by exact rfl) (pe_glob (v := .ref (A 1)) (by exact rfl) T.g_NoWatchers (by exact rfl)) (fun u r => r) (T.kt cn 1 (by decide)))) (da_cons (do_val (dx_isE (i := 0) (D := A (rk cn)) (T.ec cn) hz hf List.mem_cons_self (by exact rfl) (by exact rfl) (by exact Or.inl rfl) (by exact rfl) T.b_isinstance (by exact rfl) (pe_glob (v := .ref (A 2)) (by exact rfl) T.g_NoGoal (by exact rfl)) (fun u r => r) (T.kt cn 2 (by decide)))) (da_cons (do_val (dx_isE (i := 0) (D := A (rk cn)) (T.ec cn) hz hf List.mem_cons_self (by exact rfl) (by exact rfl) (by exact Or.inl rfl) (by exact rfl) T.b_isinstance (by exact rfl) (pe_glob (v := .ref (A 3)) (by exact rfl) T.g_NoWay (by exact rfl)) (fun u r => r) (T.kt cn 3 (by decide)))) da_nil)))))) (dss_cons (ds_expr (dx_mut (j := 1) (by exact rfl) (by exact rfl) (by exact Or.inl rfl) PySem.F.plainAttrs_list PySem.F.slot_list_extend PySem.F.type_list_extend mt_extR pv_ext (da_cons (do_val (dx_frz (dx_lst (da_cons (do_val (dx_isE (i := 0) (D := A (rk cn)) (T.ec cn) hz hf List.mem_cons_self (by exact rfl) (by exact rfl) (by exact Or.inl rfl) (by exact rfl) T.b_isinstance (by exact rfl) (pe_glob (v := .ref (A 4)) (by exact rfl) T.g_NoCount (by exact rfl)) (fun u r => r) (T.kt cn 4 (by decide)))) (da_cons (do_val (dx_isE (i := 0) (D := A (rk cn)) (T.ec cn) hz hf List.mem_cons_self (by exact rfl) (by exact rfl) (by exact Or.inl rfl) (by exact rfl) T.b_isinstance (by exact rfl) (pe_glob (v := .ref (A 5)) (by exact rfl) T.g_NoPaper (by exact rfl)) (fun u r => r) (T.kt cn 5 (by decide)))) (da_cons (do_val (dx_isE (i := 0) (D := A (rk cn)) (T.ec cn) hz hf List.mem_cons_self (by exact rfl) (by exact rfl) (by exact Or.inl rfl) (by exact rfl) T.b_isinstance (by exact rfl) (pe_glob (v := .ref (A 6)) (by exact rfl) T.g_NoRoom (by exact rfl)) (fun u r => r) (T.kt cn 6 (by decide)))) (da_cons (do_val (dx_isE (i := 0) (D := A (rk cn)) (T.ec cn) hz hf List.mem_cons_self (by exact rfl) (by exact rfl) (by exact Or.inl rfl) (by exact rfl) T.b_isinstance (by exact rfl) (pe_glob (v := .ref (A 7)) (by exact rfl) T.g_Never (by exact rfl)) (fun u r => r) (T.kt cn 7 (by decide)))) da_nil))))))) da_nil) (by exact rfl) (by exact rfl) (by exact rfl) (by exact rfl) (by exact rfl))) (dss_cons (ds_expr (dx_mut (j := 1) (by exact rfl) (by exact rfl) (by exact Or.inl rfl) PySem.F.plainAttrs_list PySem.F.slot_list_extend PySem.F.type_list_extend mt_extR pv_ext (da_cons (do_val (dx_frz (dx_lst (da_cons (do_val (dx_isE (i := 0) (D := A (rk cn)) (T.ec cn) hz hf List.mem_cons_self (by exact rfl) (by exact rfl) (by exact Or.inl rfl) (by exact rfl) T.b_isinstance (by exact rfl) (pe_glob (v := .ref (A 8)) (by exact rfl) T.g_NoText (by exact rfl)) (fun u r => r) (T.kt cn 8 (by decide)))) (da_cons (do_val (dx_isE (i := 0) (D := A (rk cn)) (T.ec cn) hz hf List.mem_cons_self (by exact rfl) (by exact rfl) (by exact Or.inl rfl) (by exact rfl) T.b_isinstance (by exact rfl) (pe_glob (v := .ref (A 9)) (by exact rfl) T.g_Nothing (by exact rfl)) (fun u r => r) (T.kt cn 9 (by decide)))) (da_cons (do_val (dx_isE (i := 0) (D := A (rk cn)) (T.ec cn) hz hf List.mem_cons_self (by exact rfl) (by exact rfl) (by exact Or.inl rfl) (by exact rfl) T.b_isinstance (by exact rfl) (pe_glob (v := .ref (A 10)) (by exact rfl) T.g_NoNames (by exact rfl)) (fun u r => r) (T.kt cn 10 (by decide)))) da_nil)))))) da_nil) (by exact rfl) (by exact rfl) (by exact rfl) (by exact rfl) (by exact rfl))) (dss_cons (ds_if (dt_w (dw_or (dt_cmp (op_neD (hu64H hr)) pv_ne (do_val (dx_mt (by exact rfl) PySem.F.plainAttrs_list PySem.F.slot_list_count PySem.F.type_list_count mt_cntF pv_cnt (do_slot (i := 1) (by exact rfl) (by exact Or.inl rfl) (by exact rfl)) (da_cons (do_val dx_bl) da_nil) (by exact rfl) (by exact rfl) (by exact rfl) (by exact rfl) (by exact rfl))) (do_val dx_int) (nomark _)) (dw_or1 (dt_not (dt_val (dx_isE (i := 0) (D := A (rk cn)) (T.ec cn) hz hf List.mem_cons_self (by exact rfl) (by exact rfl) (by exact Or.inl rfl) (by exact rfl) T.b_isinstance (by exact rfl) (pe_bltn (v := .ty "ValueError") (by exact rfl) T.b_ValueError (by exact rfl) (by exact rfl)) (fun u r => r) (T.kv cn))))))) (dss_one (ds_ret (dx_tup (da_cons (do_val (dx_str (z := "refused"))) (da_cons (do_val (dx_un un_neg pv_neg (do_val dx_int))) da_nil))))) dss_nil) (dss_one (ds_ret (dx_tup (da_cons (do_val (dx_str (z := "refused"))) (da_cons (do_val (dx_mt (by exact rfl) PySem.F.plainAttrs_list PySem.F.slot_list_index PySem.F.type_list_index mt_index pv_idx (do_slot (i := 1) (by exact rfl) (by exact Or.inl rfl) (by exact rfl)) (da_cons (do_val dx_bl) da_nil) (by exact rfl) (by exact rfl) (by exact rfl) (by exact rfl) (by exact rfl))) da_nil)))))))))) ret_w⟩
abbrev K__law_cell_at (P : Program) (w : World) (K : PySem.W.Frag) (mg : Str → Option Value) (base : Heap) (A : Nat → Addr) : Prop := Kn P w K mg base "_law_cell_at" 1 ["_law_script", "_law_k"] Γ__law_cell_at (cls A) none 2 .fz m__law_cell_at
theorem sc__law_cell_at : FnScope ["_law_script", "_law_k"] ["_law_script", "_law_k"] (defScope s__law_cell_at) := ⟨rfl, rfl, rfl, by decide +kernel, rfl, by decide +kernel, by decide +kernel⟩
theorem ok__law_cell_at (T : Txt K mg A CW) : K__law_cell_at P w K mg base A := by
  obtain ⟨f, fd, Fn, g, b⟩ := T.f__law_cell_at
  have sc := sc__law_cell_at
  exact ⟨f, g, Fn.kp, fd, b, fn_ok (N := ["_law_script", "_law_k"]) (lev := 0) (n := 2) (k := 0) Fn sc rfl rfl fun cdv A outer s H E O vs hr =>
    (dss_cons (ds_if (dt_cmp (op_ltD (hu64 hr)) pv_cmp (do_val (dx_var (i := 1) (by exact rfl) (by exact Or.inl rfl) (by exact rfl))) (do_val (dx_callB call_lenA pv_len (by exact rfl) T.b_len (by exact rfl) (da_cons (do_val (dx_var (i := 0) (by exact rfl) (by exact Or.inl rfl) (by exact rfl))) da_nil))) (nomark _)) (dss_one (ds_ret (dx_ix ix_seq pv_ix (do_val (dx_var (i := 0) (by exact rfl) (by exact Or.inl rfl) (by exact rfl))) (do_val (dx_var (i := 1) (by exact rfl) (by exact Or.inl rfl) (by exact rfl))) (fun _ _ => rfl)))) dss_nil) (dss_cons (ds_if (dt_cmp (op_eqD (hu64 hr)) pv_eq (do_val (dx_var (i := 0) (by exact rfl) (by exact Or.inl rfl) (by exact rfl))) (do_val (dx_frz (dx_lst da_nil))) (nomark _)) (dss_one (ds_ret dx_int)) dss_nil) (dss_one (ds_ret (dx_bin op_addA pv_add (do_val (dx_bin op_mulA pv_mul (do_val (dx_ix ix_seq pv_ix (do_val (dx_var (i := 0) (by exact rfl) (by exact Or.inl rfl) (by exact rfl))) (do_val (dx_bin op_mod pv_mod (do_val (dx_var (i := 1) (by exact rfl) (by exact Or.inl rfl) (by exact rfl))) (do_val (dx_callB call_lenA pv_len (by exact rfl) T.b_len (by exact rfl) (da_cons (do_val (dx_var (i := 0) (by exact rfl) (by exact Or.inl rfl) (by exact rfl))) da_nil))))) (fun _ _ => rfl))) (do_val dx_int))) (do_val (dx_var (i := 1) (by exact rfl) (by exact Or.inl rfl) (by exact rfl))))))))⟩
abbrev K__law_mixed (P : Program) (w : World) (K : PySem.W.Frag) (mg : Str → Option Value) (base : Heap) (A : Nat → Addr) : Prop := Kn P w K mg base "_law_mixed" 2 ["_law_script", "_law_k", "_law_many"] Γ__law_mixed (cls A) none 3 .fz m__law_mixed
theorem sc__law_mixed : FnScope ["_law_script", "_law_k", "_law_many", "_law_drawn"] ["_law_script", "_law_k", "_law_many"] (defScope s__law_mixed) := ⟨rfl, rfl, rfl, by decide +kernel, rfl, by decide +kernel, by decide +kernel⟩
theorem ok__law_mixed (T : Txt K mg A CW) (k__law_cell_at : K__law_cell_at P w K mg base A) : K__law_mixed P w K mg base A := by
  obtain ⟨f, fd, Fn, g, b⟩ := T.f__law_mixed
  have sc := sc__law_mixed
  exact ⟨f, g, Fn.kp, fd, b, fn_ok (N := ["_law_script", "_law_k", "_law_many", "_law_drawn"]) (lev := 1) (n := 3) (k := 1) Fn sc rfl rfl fun cdv A outer s H E O vs hr =>
    (dss_cons (ds_set sc.nd (i := 3) (by exact rfl) (by exact Or.inl rfl) (by exact rfl) (by exact Or.inl rfl) (dx_bin op_mod pv_mod (do_val (dx_bin op_addA pv_add (do_val (dx_bin op_addA pv_add (do_val (dx_bin op_mulA pv_mul (do_val (dx_kn none (Γc := Γ__law_cell_at) k__law_cell_at (by exact rfl) (takes_of (by exact rfl) (by exact rfl) (by exact rfl) (by exact rfl)) hr (by decide) (by exact rfl) (by exact rfl) (fun q e => nomatch e) (da_cons (do_val (dx_var (i := 0) (by exact rfl) (by exact Or.inl rfl) (by exact rfl))) (da_cons (do_val (dx_var (i := 1) (by exact rfl) (by exact Or.inl rfl) (by exact rfl))) da_nil)))) (do_val dx_int))) (do_val (dx_bin op_mulA pv_mul (do_val dx_int) (do_val (dx_var (i := 1) (by exact rfl) (by exact Or.inl rfl) (by exact rfl))))))) (do_val dx_int))) (do_val dx_int))) (dss_one (ds_ret (dx_bin op_mod pv_mod (do_val (dx_bin op_mod pv_mod (do_val (dx_bin op_mod pv_mod (do_val (dx_bin op_pow pv_pow (do_val (dx_var (i := 3) (by exact rfl) (by exact Or.inl rfl) (by exact rfl))) (do_val dx_int))) (do_val dx_int))) (do_val dx_int))) (do_val (dx_var (i := 2) (by exact rfl) (by exact Or.inl rfl) (by exact rfl)))))))⟩
abbrev K__law_draw (P : Program) (w : World) (K : PySem.W.Frag) (mg : Str → Option Value) (base : Heap) (A : Nat → Addr) : Prop := Kn P w K mg base "_law_draw" 3 ["_law_script", "_law_town", "_law_many"] Γ__law_draw (cls A) (some 1) 3 .fz m__law_draw
theorem sc__law_draw : FnScope ["_law_script", "_law_town", "_law_many"] ["_law_script", "_law_town", "_law_many"] (defScope s__law_draw) := ⟨rfl, rfl, rfl, by decide +kernel, rfl, by decide +kernel, by decide +kernel⟩
theorem ok__law_draw (T : Txt K mg A CW) (k__law_mixed : K__law_mixed P w K mg base A) : K__law_draw P w K mg base A := by
  obtain ⟨f, fd, Fn, g, b⟩ := T.f__law_draw
  have sc := sc__law_draw
  exact ⟨f, g, Fn.kp, fd, b, fn_ok (N := ["_law_script", "_law_town", "_law_many"]) (lev := 2) (n := 3) (k := 0) Fn sc rfl rfl fun cdv A outer s H E O vs hr =>
    (dss_cons (ds_expr (dx_mut (j := 1) (by exact rfl) (by exact rfl) (by exact Or.inl rfl) PySem.F.plainAttrs_list PySem.F.slot_list_append PySem.F.type_list_append mt_append pv_append (da_cons (do_val dx_int) da_nil) (by exact rfl) (by exact rfl) (by exact rfl) (by exact rfl) (by exact rfl))) (dss_one (ds_ret (dx_kn none (Γc := Γ__law_mixed) k__law_mixed (by exact rfl) (takes_of (by exact rfl) (by exact rfl) (by exact rfl) (by exact rfl)) hr (by decide) (by exact rfl) (by exact rfl) (fun q e => nomatch e) (da_cons (do_val (dx_var (i := 0) (by exact rfl) (by exact Or.inl rfl) (by exact rfl))) (da_cons (do_val (dx_callB call_lenA pv_len (by exact rfl) T.b_len (by exact rfl) (da_cons (do_slot (i := 1) (by exact rfl) (by exact Or.inl rfl) (by exact rfl)) da_nil))) (da_cons (do_val (dx_var (i := 2) (by exact rfl) (by exact Or.inl rfl) (by exact rfl))) da_nil)))))))⟩
abbrev K__law_house (P : Program) (w : World) (K : PySem.W.Frag) (mg : Str → Option Value) (base : Heap) (A : Nat → Addr) : Prop := Kn P w K mg base "_law_house" 4 ["_law_script", "_law_town", "_law_most"] Γ__law_house (cls A) (some 1) 3 .fz m__law_house
theorem sc__law_house : FnScope ["_law_script", "_law_town", "_law_most", "_law_share", "_law_many", "_law_doors", "_law_other", "_law_one"] ["_law_script", "_law_town", "_law_most"] (defScope s__law_house) := ⟨rfl, rfl, rfl, by decide +kernel, rfl, by decide +kernel, by decide +kernel⟩
theorem ok__law_house (T : Txt K mg A CW) (k__law_draw : K__law_draw P w K mg base A) : K__law_house P w K mg base A := by
  obtain ⟨f, fd, Fn, g, b⟩ := T.f__law_house
  have sc := sc__law_house
  exact ⟨f, g, Fn.kp, fd, b, fn_ok (N := ["_law_script", "_law_town", "_law_most", "_law_share", "_law_many", "_law_doors", "_law_other", "_law_one"]) (lev := 3) (n := 3) (k := 5) Fn sc rfl rfl fun cdv A outer s H E O vs hr =>
    (dss_cons (ds_set sc.nd (i := 3) (by exact rfl) (by exact Or.inl rfl) (by exact rfl) (by exact Or.inl rfl) (dx_kn (some (1, 1)) (Γc := Γ__law_draw) k__law_draw (by exact rfl) (takes_of (by exact rfl) (by exact rfl) (by exact rfl) (by exact rfl)) hr (by decide) (by exact rfl) (by exact rfl) (fun q e => by cases e; rfl) (da_cons (do_val (dx_var (i := 0) (by exact rfl) (by exact Or.inl rfl) (by exact rfl))) (da_cons (do_lend (i := 1) (by exact rfl) (by exact Or.inl rfl)) (da_cons (do_val dx_int) da_nil))))) (dss_cons (ds_set sc.nd (i := 4) (by exact rfl) (by exact Or.inl rfl) (by exact rfl) (by exact Or.inl rfl) (dx_bin op_addA pv_add (do_val dx_int) (do_val (dx_kn (some (1, 1)) (Γc := Γ__law_draw) k__law_draw (by exact rfl) (takes_of (by exact rfl) (by exact rfl) (by exact rfl) (by exact rfl)) hr (by decide) (by exact rfl) (by exact rfl) (fun q e => by cases e; rfl) (da_cons (do_val (dx_var (i := 0) (by exact rfl) (by exact Or.inl rfl) (by exact rfl))) (da_cons (do_lend (i := 1) (by exact rfl) (by exact Or.inl rfl)) (da_cons (do_val (dx_bin op_sub pv_sub (do_val (dx_var (i := 2) (by exact rfl) (by exact Or.inl rfl) (by exact rfl))) (do_val dx_int))) da_nil))))))) (dss_cons (ds_set sc.nd (i := 5) (by exact rfl) (by exact Or.inl rfl) (by exact rfl) (by exact Or.inl rfl) (dx_lst da_nil)) (dss_cons (ds_for (passes_of (by exact rfl)) (by exact rfl) (di_range2 (by exact rfl) T.b_range dx_int (dx_var (i := 4) (by exact rfl) (by exact Or.inl rfl) (by exact rfl))) (dg_name sc.nd (i := 6) (by exact rfl) (by exact Or.inl rfl) (by exact rfl) (by exact rfl) (by first | exact Or.inl rfl | exact Or.inr rfl)) (dss_one (ds_for (passes_of (by exact rfl)) (by exact rfl) (di_range1 (by exact rfl) T.b_range (dx_var (i := 6) (by exact rfl) (by exact Or.inl rfl) (by exact rfl))) (dg_name sc.nd (i := 7) (by exact rfl) (by exact Or.inl rfl) (by exact rfl) (by exact rfl) (by first | exact Or.inl rfl | exact Or.inr rfl)) (dss_one (ds_if (dt_w (dw_or (dt_cmp (op_ltD (hu64 hr)) pv_cmp (do_val (dx_kn (some (1, 1)) (Γc := Γ__law_draw) k__law_draw (by exact rfl) (takes_of (by exact rfl) (by exact rfl) (by exact rfl) (by exact rfl)) hr (by decide) (by exact rfl) (by exact rfl) (fun q e => by cases e; rfl) (da_cons (do_val (dx_var (i := 0) (by exact rfl) (by exact Or.inl rfl) (by exact rfl))) (da_cons (do_lend (i := 1) (by exact rfl) (by exact Or.inl rfl)) (da_cons (do_val dx_int) da_nil))))) (do_val (dx_var (i := 3) (by exact rfl) (by exact Or.inl rfl) (by exact rfl))) (nomark _)) (dw_or1 (dt_w (dw_and (dt_cmp (op_eqD (hu64 hr)) pv_eq (do_val (dx_var (i := 7) (by exact rfl) (by exact Or.inl rfl) (by exact rfl))) (do_val (dx_bin op_sub pv_sub (do_val (dx_var (i := 6) (by exact rfl) (by exact Or.inl rfl) (by exact rfl))) (do_val dx_int))) (nomark _)) (dw_and1 (dt_cmp (op_gtD (hu64 hr)) pv_cmp (do_val (dx_kn (some (1, 1)) (Γc := Γ__law_draw) k__law_draw (by exact rfl) (takes_of (by exact rfl) (by exact rfl) (by exact rfl) (by exact rfl)) hr (by decide) (by exact rfl) (by exact rfl) (fun q e => by cases e; rfl) (da_cons (do_val (dx_var (i := 0) (by exact rfl) (by exact Or.inl rfl) (by exact rfl))) (da_cons (do_lend (i := 1) (by exact rfl) (by exact Or.inl rfl)) (da_cons (do_val dx_int) da_nil))))) (do_val dx_int) (nomark _)))))))) (dss_one (ds_expr (dx_mut (j := 5) (by exact rfl) (by exact rfl) (by exact Or.inl rfl) PySem.F.plainAttrs_list PySem.F.slot_list_append PySem.F.type_list_append mt_append pv_append (da_cons (do_val (dx_tup (da_cons (do_val (dx_var (i := 7) (by exact rfl) (by exact Or.inl rfl) (by exact rfl))) (da_cons (do_val (dx_var (i := 6) (by exact rfl) (by exact Or.inl rfl) (by exact rfl))) da_nil)))) da_nil) (by exact rfl) (by exact rfl) (by exact rfl) (by exact rfl) (by exact rfl)))) dss_nil))))) (dss_one (ds_ret (dx_tup (da_cons (do_val (dx_var (i := 4) (by exact rfl) (by exact Or.inl rfl) (by exact rfl))) (da_cons (do_val (dx_callTy call_tuple_of pv_tuple (by exact rfl) T.b_tuple (by exact rfl) (da_cons (do_val (dx_sl sl_all pv_sl (do_val (dx_frz (dx_callB (cr_sortD (hu70 hr)) pv_sort (by exact rfl) T.b_sorted (by exact rfl) (da_cons (do_slot (i := 5) (by exact rfl) (by exact Or.inl rfl) (by exact rfl)) da_nil)))) dp_none (dp_some dx_int))) da_nil))) da_nil)))))))))⟩
abbrev K__law_pick (P : Program) (w : World) (K : PySem.W.Frag) (mg : Str → Option Value) (base : Heap) (A : Nat → Addr) : Prop := Kn P w K mg base "_law_pick" 4 ["_law_script", "_law_town", "_law_some"] Γ__law_pick (cls A) (some 1) 3 .fz m__law_pick
theorem sc__law_pick : FnScope ["_law_script", "_law_town", "_law_some"] ["_law_script", "_law_town", "_law_some"] (defScope s__law_pick) := ⟨rfl, rfl, rfl, by decide +kernel, rfl, by decide +kernel, by decide +kernel⟩
theorem ok__law_pick (T : Txt K mg A CW) (k__law_draw : K__law_draw P w K mg base A) : K__law_pick P w K mg base A := by
  obtain ⟨f, fd, Fn, g, b⟩ := T.f__law_pick
  have sc := sc__law_pick
  exact ⟨f, g, Fn.kp, fd, b, fn_ok (N := ["_law_script", "_law_town", "_law_some"]) (lev := 3) (n := 3) (k := 0) Fn sc rfl rfl fun cdv A outer s H E O vs hr =>
    (dss_one (ds_ret (dx_ix ix_seq pv_ix (do_val (dx_var (i := 2) (by exact rfl) (by exact Or.inl rfl) (by exact rfl))) (do_val (dx_kn (some (1, 1)) (Γc := Γ__law_draw) k__law_draw (by exact rfl) (takes_of (by exact rfl) (by exact rfl) (by exact rfl) (by exact rfl)) hr (by decide) (by exact rfl) (by exact rfl) (fun q e => by cases e; rfl) (da_cons (do_val (dx_var (i := 0) (by exact rfl) (by exact Or.inl rfl) (by exact rfl))) (da_cons (do_lend (i := 1) (by exact rfl) (by exact Or.inl rfl)) (da_cons (do_val (dx_callB call_lenA pv_len (by exact rfl) T.b_len (by exact rfl) (da_cons (do_val (dx_var (i := 2) (by exact rfl) (by exact Or.inl rfl) (by exact rfl))) da_nil))) da_nil))))) (fun _ _ => rfl))))⟩
abbrev K__law_odd_house (P : Program) (w : World) (K : PySem.W.Frag) (mg : Str → Option Value) (base : Heap) (A : Nat → Addr) : Prop := Kn P w K mg base "_law_odd_house" 5 ["_law_script", "_law_town"] Γ__law_odd_house (cls A) (some 1) 2 .fz m__law_odd_house
theorem sc__law_odd_house : FnScope ["_law_script", "_law_town", "_law_some"] ["_law_script", "_law_town"] (defScope s__law_odd_house) := ⟨rfl, rfl, rfl, by decide +kernel, rfl, by decide +kernel, by decide +kernel⟩
theorem ok__law_odd_house (T : Txt K mg A CW) (k__law_pick : K__law_pick P w K mg base A) : K__law_odd_house P w K mg base A := by
  obtain ⟨f, fd, Fn, g, b⟩ := T.f__law_odd_house
  have sc := sc__law_odd_house
  exact ⟨f, g, Fn.kp, fd, b, fn_ok (N := ["_law_script", "_law_town", "_law_some"]) (lev := 4) (n := 2) (k := 1) Fn sc rfl rfl fun cdv A outer s H E O vs hr =>
    (dss_cons (ds_set sc.nd (i := 2) (by exact rfl) (by exact Or.inl rfl) (by exact rfl) (by exact Or.inl rfl) (dx_frz (dx_lst (da_cons (do_val dx_non) (da_cons (do_val dx_int) (da_cons (do_val (dx_tup da_nil)) (da_cons (do_val (dx_tup (da_cons (do_val dx_int) (da_cons (do_val (dx_tup da_nil)) da_nil)))) (da_cons (do_val (dx_tup (da_cons (do_val dx_int) (da_cons (do_val (dx_tup da_nil)) da_nil)))) (da_cons (do_val (dx_tup (da_cons (do_val dx_bl) (da_cons (do_val (dx_tup da_nil)) da_nil)))) (da_cons (do_val (dx_tup (da_cons (do_val dx_int) (da_cons (do_val (dx_frz (dx_lst (da_cons (do_val (dx_tup (da_cons (do_val dx_int) (da_cons (do_val dx_int) da_nil)))) da_nil)))) da_nil)))) (da_cons (do_val (dx_frz (dx_lst (da_cons (do_val dx_int) (da_cons (do_val (dx_tup da_nil)) da_nil))))) (da_cons (do_val (dx_tup (da_cons (do_val dx_int) (da_cons (do_val (dx_tup (da_cons (do_val (dx_tup (da_cons (do_val dx_int) (da_cons (do_val dx_int) da_nil)))) da_nil))) da_nil)))) da_nil)))))))))))) (dss_cons (ds_set sc.nd (i := 2) (by exact rfl) (by exact Or.inl rfl) (by exact rfl) (by exact Or.inl rfl) (dx_bin op_addA pv_add (do_val (dx_var (i := 2) (by exact rfl) (by exact Or.inl rfl) (by exact rfl))) (do_val (dx_frz (dx_lst (da_cons (do_val (dx_tup (da_cons (do_val dx_int) (da_cons (do_val (dx_tup (da_cons (do_val (dx_tup (da_cons (do_val dx_int) (da_cons (do_val dx_int) da_nil)))) (da_cons (do_val (dx_tup (da_cons (do_val dx_int) (da_cons (do_val dx_int) da_nil)))) da_nil)))) da_nil)))) (da_cons (do_val (dx_tup (da_cons (do_val dx_int) (da_cons (do_val (dx_tup (da_cons (do_val (dx_tup (da_cons (do_val dx_int) (da_cons (do_val dx_int) da_nil)))) (da_cons (do_val (dx_tup (da_cons (do_val dx_int) (da_cons (do_val dx_int) da_nil)))) da_nil)))) da_nil)))) (da_cons (do_val (dx_tup (da_cons (do_val dx_int) (da_cons (do_val (dx_tup (da_cons (do_val (dx_tup (da_cons (do_val dx_int) (da_cons (do_val dx_bl) da_nil)))) da_nil))) da_nil)))) (da_cons (do_val (dx_str (z := "rooms 3"))) (da_cons (do_val (dx_tup (da_cons (do_val dx_int) da_nil))) da_nil)))))))))) (dss_one (ds_ret (dx_kn (some (1, 1)) (Γc := Γ__law_pick) k__law_pick (by exact rfl) (takes_of (by exact rfl) (by exact rfl) (by exact rfl) (by exact rfl)) hr (by decide) (by exact rfl) (by exact rfl) (fun q e => by cases e; rfl) (da_cons (do_val (dx_var (i := 0) (by exact rfl) (by exact Or.inl rfl) (by exact rfl))) (da_cons (do_lend (i := 1) (by exact rfl) (by exact Or.inl rfl)) (da_cons (do_val (dx_bin op_addA pv_add (do_val (dx_var (i := 2) (by exact rfl) (by exact Or.inl rfl) (by exact rfl))) (do_val (dx_frz (dx_lst (da_cons (do_val (dx_tup (da_cons (do_val dx_int) (da_cons (do_val (dx_tup (da_cons (do_val (dx_tup (da_cons (do_val dx_int) (da_cons (do_val dx_int) da_nil)))) da_nil))) da_nil)))) (da_cons (do_val (dx_tup (da_cons (do_val dx_int) (da_cons (do_val (dx_tup (da_cons (do_val (dx_tup (da_cons (do_val dx_int) (da_cons (do_val dx_int) da_nil)))) da_nil))) da_nil)))) da_nil))))))) da_nil))))))))⟩
abbrev K__law_odd_watchers (P : Program) (w : World) (K : PySem.W.Frag) (mg : Str → Option Value) (base : Heap) (A : Nat → Addr) : Prop := Kn P w K mg base "_law_odd_watchers" 5 ["_law_script", "_law_town"] Γ__law_odd_watchers (cls A) (some 1) 2 .fz m__law_odd_watchers
theorem sc__law_odd_watchers : FnScope ["_law_script", "_law_town", "_law_some"] ["_law_script", "_law_town"] (defScope s__law_odd_watchers) := ⟨rfl, rfl, rfl, by decide +kernel, rfl, by decide +kernel, by decide +kernel⟩
theorem ok__law_odd_watchers (T : Txt K mg A CW) (k__law_pick : K__law_pick P w K mg base A) : K__law_odd_watchers P w K mg base A := by
  obtain ⟨f, fd, Fn, g, b⟩ := T.f__law_odd_watchers
  have sc := sc__law_odd_watchers
  exact ⟨f, g, Fn.kp, fd, b, fn_ok (N := ["_law_script", "_law_town", "_law_some"]) (lev := 4) (n := 2) (k := 1) Fn sc rfl rfl fun cdv A outer s H E O vs hr =>
    (dss_cons (ds_set sc.nd (i := 2) (by exact rfl) (by exact Or.inl rfl) (by exact rfl) (by exact Or.inl rfl) (dx_frz (dx_lst (da_cons (do_val dx_non) (da_cons (do_val dx_int) (da_cons (do_val (dx_frz (dx_lst da_nil))) (da_cons (do_val (dx_tup (da_cons (do_val (dx_tup (da_cons (do_val (dx_tup (da_cons (do_val (dx_str (z := "room"))) (da_cons (do_val dx_int) da_nil)))) (da_cons (do_val (dx_str (z := "#"))) da_nil)))) da_nil))) (da_cons (do_val (dx_tup (da_cons (do_val (dx_tup (da_cons (do_val (dx_tup (da_cons (do_val (dx_str (z := "room"))) (da_cons (do_val dx_int) da_nil)))) (da_cons (do_val (dx_str (z := ""))) da_nil)))) da_nil))) (da_cons (do_val (dx_tup (da_cons (do_val (dx_tup (da_cons (do_val (dx_tup (da_cons (do_val (dx_str (z := "room"))) (da_cons (do_val dx_int) da_nil)))) (da_cons (do_val (dx_str (z := "#######"))) da_nil)))) da_nil))) da_nil))))))))) (dss_cons (ds_set sc.nd (i := 2) (by exact rfl) (by exact Or.inl rfl) (by exact rfl) (by exact Or.inl rfl) (dx_bin op_addA pv_add (do_val (dx_var (i := 2) (by exact rfl) (by exact Or.inl rfl) (by exact rfl))) (do_val (dx_frz (dx_lst (da_cons (do_val (dx_tup (da_cons (do_val (dx_tup (da_cons (do_val (dx_tup (da_cons (do_val (dx_str (z := "room"))) (da_cons (do_val dx_int) da_nil)))) (da_cons (do_val (dx_str (z := "#"))) da_nil)))) da_nil))) (da_cons (do_val (dx_tup (da_cons (do_val (dx_tup (da_cons (do_val (dx_tup (da_cons (do_val (dx_str (z := "door"))) (da_cons (do_val dx_int) (da_cons (do_val dx_int) da_nil))))) (da_cons (do_val (dx_str (z := "#"))) da_nil)))) da_nil))) (da_cons (do_val (dx_bin op_mulA pv_mul (do_val (dx_tup (da_cons (do_val (dx_tup (da_cons (do_val (dx_tup (da_cons (do_val (dx_str (z := "room"))) (da_cons (do_val dx_int) da_nil)))) (da_cons (do_val (dx_str (z := "#"))) da_nil)))) da_nil))) (do_val dx_int))) (da_cons (do_val (dx_tup (da_cons (do_val (dx_tup (da_cons (do_val (dx_tup (da_cons (do_val (dx_str (z := "hall"))) (da_cons (do_val dx_int) da_nil)))) (da_cons (do_val (dx_str (z := "#"))) da_nil)))) da_nil))) da_nil))))))))) (dss_cons (ds_set sc.nd (i := 2) (by exact rfl) (by exact Or.inl rfl) (by exact rfl) (by exact Or.inl rfl) (dx_bin op_addA pv_add (do_val (dx_var (i := 2) (by exact rfl) (by exact Or.inl rfl) (by exact rfl))) (do_val (dx_frz (dx_lst (da_cons (do_val (dx_tup (da_cons (do_val (dx_tup (da_cons (do_val (dx_tup (da_cons (do_val (dx_str (z := "room"))) (da_cons (do_val dx_int) da_nil)))) (da_cons (do_val dx_non) da_nil)))) da_nil))) (da_cons (do_val (dx_tup (da_cons (do_val (dx_tup (da_cons (do_val (dx_tup (da_cons (do_val (dx_str (z := "room"))) (da_cons (do_val dx_bl) da_nil)))) (da_cons (do_val (dx_str (z := "#"))) da_nil)))) da_nil))) (da_cons (do_val (dx_tup (da_cons (do_val (dx_tup (da_cons (do_val (dx_str (z := "room"))) (da_cons (do_val dx_int) da_nil)))) (da_cons (do_val (dx_str (z := "#"))) da_nil)))) (da_cons (do_val (dx_tup (da_cons (do_val (dx_tup (da_cons (do_val (dx_tup (da_cons (do_val (dx_str (z := "room"))) (da_cons (do_val dx_int) da_nil)))) (da_cons (do_val (dx_str (z := "x"))) da_nil)))) da_nil))) da_nil))))))))) (dss_one (ds_ret (dx_kn (some (1, 1)) (Γc := Γ__law_pick) k__law_pick (by exact rfl) (takes_of (by exact rfl) (by exact rfl) (by exact rfl) (by exact rfl)) hr (by decide) (by exact rfl) (by exact rfl) (fun q e => by cases e; rfl) (da_cons (do_val (dx_var (i := 0) (by exact rfl) (by exact Or.inl rfl) (by exact rfl))) (da_cons (do_lend (i := 1) (by exact rfl) (by exact Or.inl rfl)) (da_cons (do_val (dx_var (i := 2) (by exact rfl) (by exact Or.inl rfl) (by exact rfl))) da_nil)))))))))⟩
abbrev K_is_whole (P : Program) (w : World) (K : PySem.W.Frag) (mg : Str → Option Value) (base : Heap) (A : Nat → Addr) : Prop := Kn P w K mg base "is_whole" 1 ["thing", "low", "most"] Γ_is_whole (cls A) none 3 .fz m_is_whole
theorem sc_is_whole : FnScope ["thing", "low", "most"] ["thing", "low", "most"] (defScope s_is_whole) := ⟨rfl, rfl, rfl, by decide +kernel, rfl, by decide +kernel, by decide +kernel⟩
theorem ok_is_whole (T : Txt K mg A CW) : K_is_whole P w K mg base A := by
  obtain ⟨f, fd, Fn, g, b⟩ := T.f_is_whole
  have sc := sc_is_whole
  exact ⟨f, g, Fn.kp, fd, b, fn_ok (N := ["thing", "low", "most"]) (lev := 0) (n := 3) (k := 0) Fn sc rfl rfl fun cdv A outer s H E O vs hr =>
    (dss_one (ds_ret (dx_and (dx_isi .int (by exact rfl) (by exact rfl) T.b_isinstance (by exact rfl) T.b_int (by exact rfl) (do_val (dx_var (i := 0) (by exact rfl) (by exact Or.inl rfl) (by exact rfl))) (by exact rfl)) (dx_and (dx_not (dx_isi .bool (by exact rfl) (by exact rfl) T.b_isinstance (by exact rfl) T.b_bool (by exact rfl) (do_val (dx_var (i := 0) (by exact rfl) (by exact Or.inl rfl) (by exact rfl))) (by exact rfl))) (dx_one (dx_chain (op_leD (hu64 hr)) (op_leD (hu64 hr)) pv_cmp pv_cmp (do_val (dx_var (i := 1) (by exact rfl) (by exact Or.inl rfl) (by exact rfl))) (do_val (dx_var (i := 0) (by exact rfl) (by exact Or.inl rfl) (by exact rfl))) (do_val (dx_var (i := 2) (by exact rfl) (by exact Or.inl rfl) (by exact rfl))) (by with_unfolding_all rfl)))))))⟩
abbrev K_is_rising (P : Program) (w : World) (K : PySem.W.Frag) (mg : Str → Option Value) (base : Heap) (A : Nat → Addr) : Prop := Kn P w K mg base "is_rising" 1 ["thing"] Γ_is_rising (cls A) none 1 .fz m_is_rising
theorem sc_is_rising : FnScope ["thing", "one", "other"] ["thing"] (defScope s_is_rising) := ⟨rfl, rfl, rfl, by decide +kernel, rfl, by decide +kernel, by decide +kernel⟩
theorem ok_is_rising (T : Txt K mg A CW) : K_is_rising P w K mg base A := by
  obtain ⟨f, fd, Fn, g, b⟩ := T.f_is_rising
  have sc := sc_is_rising
  exact ⟨f, g, Fn.kp, fd, b, fn_ok (N := ["thing", "one", "other"]) (lev := 0) (n := 1) (k := 2) Fn sc rfl rfl fun cdv A outer s H E O vs hr =>
    (dss_one (ds_ret (dx_callB (cr_all (by exact rfl)) pv_all (by exact rfl) T.b_all (by exact rfl) (da_cons (do_val (dx_frz (dx_lc (own := [("one", 1), ("other", 2)]) (T := (.tp [(.nm 1), (.nm 2)])) (by exact rfl) sc.nd (di_zip (by exact rfl) (by exact rfl) T.b_zip (dx_var (i := 0) (by exact rfl) (by exact Or.inl rfl) (by exact rfl)) (dx_sl sl_all pv_sl (do_val (dx_var (i := 0) (by exact rfl) (by exact Or.inl rfl) (by exact rfl))) (dp_some dx_int) dp_none)) (blkOk_by (N := ["thing", "one", "other"]) (sc := defScope s_is_rising) (by decide +kernel)) (by decide) (all2 (by exact rfl) (by exact rfl)) (all2 (by exact rfl) (by exact rfl)) (fun O s H C cl fp => (dg_tup (by exact rfl) (dgs_cons (dg_name sc.nd (i := 1) (by exact rfl) (by exact Or.inl rfl) (by exact rfl) (by exact rfl) (by first | exact Or.inl rfl | exact Or.inr rfl)) (dgs_cons (dg_name sc.nd (i := 2) (by exact rfl) (by exact Or.inl rfl) (by exact rfl) (by exact rfl) (by first | exact Or.inl rfl | exact Or.inr rfl)) dgs_nil)) (n := 2) (by exact rfl) (by exact rfl) (by exact rfl))) (fun O s H C cl fp => dts_nil) (fun O s H C cl fp => (dx_cmp (op_ltD (hu64 hr)) pv_cmp (do_val (dx_var (i := 1) (by exact rfl) (by exact Or.inl rfl) (by exact rfl))) (do_val (dx_var (i := 2) (by exact rfl) (by exact Or.inl rfl) (by exact rfl))) (nomark _)))))) da_nil))))⟩
abbrev K_is_door (P : Program) (w : World) (K : PySem.W.Frag) (mg : Str → Option Value) (base : Heap) (A : Nat → Addr) : Prop := Kn P w K mg base "is_door" 2 ["rooms", "thing"] Γ_is_door (cls A) none 2 .fz m_is_door
theorem sc_is_door : FnScope ["rooms", "thing", "room"] ["rooms", "thing"] (defScope s_is_door) := ⟨rfl, rfl, rfl, by decide +kernel, rfl, by decide +kernel, by decide +kernel⟩
theorem ok_is_door (T : Txt K mg A CW) (k_is_whole : K_is_whole P w K mg base A) : K_is_door P w K mg base A := by
  obtain ⟨f, fd, Fn, g, b⟩ := T.f_is_door
  have sc := sc_is_door
  exact ⟨f, g, Fn.kp, fd, b, fn_ok (N := ["rooms", "thing", "room"]) (lev := 1) (n := 2) (k := 1) Fn sc rfl rfl fun cdv A outer s H E O vs hr =>
    (dss_cons (ds_if (dt_w (dw_or (dt_not (dt_val (dx_isi .tuple (by exact rfl) (by exact rfl) T.b_isinstance (by exact rfl) T.b_tuple (by exact rfl) (do_val (dx_var (i := 1) (by exact rfl) (by exact Or.inl rfl) (by exact rfl))) (by exact rfl)))) (dw_or (dt_cmp (op_neD (hu64 hr)) pv_ne (do_val (dx_callB call_lenA pv_len (by exact rfl) T.b_len (by exact rfl) (da_cons (do_val (dx_var (i := 1) (by exact rfl) (by exact Or.inl rfl) (by exact rfl))) da_nil))) (do_val dx_int) (nomark _)) (dw_or1 (dt_not (dt_val (dx_callB (cr_all (by exact rfl)) pv_all (by exact rfl) T.b_all (by exact rfl) (da_cons (do_val (dx_frz (dx_lc (own := [("room", 2)]) (T := (.nm 2)) (by exact rfl) sc.nd (di_of (by exact rfl) (dx_var (i := 1) (by exact rfl) (by exact Or.inl rfl) (by exact rfl))) (blkOk_by (N := ["rooms", "thing", "room"]) (sc := defScope s_is_door) (by decide +kernel)) (by decide) (all1 (by exact rfl)) (all1 (by exact rfl)) (fun O s H C cl fp => (dg_name sc.nd (i := 2) (by exact rfl) (by exact Or.inl rfl) (by exact rfl) (by exact rfl) (by first | exact Or.inl rfl | exact Or.inr rfl))) (fun O s H C cl fp => dts_nil) (fun O s H C cl fp => (dx_kn none (Γc := Γ_is_whole) k_is_whole (by exact rfl) takes0 hr (by decide) (by exact rfl) (by exact rfl) (fun q e => nomatch e) (da_cons (do_val (dx_var (i := 2) (by exact rfl) (by exact Or.inl rfl) (by exact rfl))) (da_cons (do_val dx_int) (da_cons (do_val (dx_bin op_sub pv_sub (do_val (dx_var (i := 0) (by exact rfl) (by first | exact Or.inr (Or.inl rfl) | exact Or.inr (Or.inr rfl)) (by exact rfl))) (do_val dx_int))) da_nil)))))))) da_nil)))))))) (dss_one (ds_ret dx_bl)) dss_nil) (dss_one (ds_ret (dx_cmp (op_ltD (hu64 hr)) pv_cmp (do_val (dx_ix ix_seq pv_ix (do_val (dx_var (i := 1) (by exact rfl) (by exact Or.inl rfl) (by exact rfl))) (do_val dx_int) (fun _ _ => rfl))) (do_val (dx_ix ix_seq pv_ix (do_val (dx_var (i := 1) (by exact rfl) (by exact Or.inl rfl) (by exact rfl))) (do_val dx_int) (fun _ _ => rfl))) (nomark _)))))⟩
abbrev K_is_house (P : Program) (w : World) (K : PySem.W.Frag) (mg : Str → Option Value) (base : Heap) (A : Nat → Addr) : Prop := Kn P w K mg base "is_house" 3 ["thing"] Γ_is_house (cls A) none 1 .fz m_is_house
theorem sc_is_house : FnScope ["thing", "door"] ["thing"] (defScope s_is_house) := ⟨rfl, rfl, rfl, by decide +kernel, rfl, by decide +kernel, by decide +kernel⟩
theorem ok_is_house (T : Txt K mg A CW) (k_is_whole : K_is_whole P w K mg base A) (k_is_rising : K_is_rising P w K mg base A) (k_is_door : K_is_door P w K mg base A) : K_is_house P w K mg base A := by
  obtain ⟨f, fd, Fn, g, b⟩ := T.f_is_house
  have sc := sc_is_house
  exact ⟨f, g, Fn.kp, fd, b, fn_ok (N := ["thing", "door"]) (lev := 2) (n := 1) (k := 1) Fn sc rfl rfl fun cdv A outer s H E O vs hr =>
    (dss_cons (ds_if (dt_w (dw_or (dt_not (dt_val (dx_isi .tuple (by exact rfl) (by exact rfl) T.b_isinstance (by exact rfl) T.b_tuple (by exact rfl) (do_val (dx_var (i := 0) (by exact rfl) (by exact Or.inr (Or.inl rfl)) (by exact rfl))) (by exact rfl)))) (dw_or (dt_cmp (op_neD (hu64 hr)) pv_ne (do_val (dx_callB call_lenA pv_len (by exact rfl) T.b_len (by exact rfl) (da_cons (do_val (dx_var (i := 0) (by exact rfl) (by exact Or.inr (Or.inl rfl)) (by exact rfl))) da_nil))) (do_val dx_int) (nomark _)) (dw_or1 (dt_not (dt_val (dx_kn none (Γc := Γ_is_whole) k_is_whole (by exact rfl) (takes_of (by exact rfl) (by exact rfl) (by exact rfl) (by exact rfl)) hr (by decide) (by exact rfl) (by exact rfl) (fun q e => nomatch e) (da_cons (do_val (dx_ix ix_seq pv_ix (do_val (dx_var (i := 0) (by exact rfl) (by exact Or.inr (Or.inl rfl)) (by exact rfl))) (do_val dx_int) (fun _ _ => rfl))) (da_cons (do_val dx_int) (da_cons (do_val (dx_gI (by exact rfl) T.c_ROOMS)) da_nil)))))))))) (dss_one (ds_ret dx_bl)) dss_nil) (dss_cons (ds_if (dt_w (dw_or (dt_not (dt_val (dx_isi .tuple (by exact rfl) (by exact rfl) T.b_isinstance (by exact rfl) T.b_tuple (by exact rfl) (do_val (dx_ix ix_seq pv_ix (do_val (dx_var (i := 0) (by exact rfl) (by exact Or.inr (Or.inl rfl)) (by exact rfl))) (do_val dx_int) (fun _ _ => rfl))) (by exact rfl)))) (dw_or1 (dt_cmp (op_gtD (hu64 hr)) pv_cmp (do_val (dx_callB call_lenA pv_len (by exact rfl) T.b_len (by exact rfl) (da_cons (do_val (dx_ix ix_seq pv_ix (do_val (dx_var (i := 0) (by exact rfl) (by exact Or.inr (Or.inl rfl)) (by exact rfl))) (do_val dx_int) (fun _ _ => rfl))) da_nil))) (do_val (dx_gI (by exact rfl) T.c_DOORS)) (nomark _))))) (dss_one (ds_ret dx_bl)) dss_nil) (dss_one (ds_ret (dx_and (dx_callB (cr_all (by exact rfl)) pv_all (by exact rfl) T.b_all (by exact rfl) (da_cons (do_val (dx_frz (dx_lc (own := [("door", 1)]) (T := (.nm 1)) (by exact rfl) sc.nd (di_of (by exact rfl) (dx_ix ix_seq pv_ix (do_val (dx_var (i := 0) (by exact rfl) (by exact Or.inr (Or.inl rfl)) (by exact rfl))) (do_val dx_int) (fun _ _ => rfl))) (blkOk_by (N := ["thing", "door"]) (sc := defScope s_is_house) (by decide +kernel)) (by decide) (all1 (by exact rfl)) (all1 (by exact rfl)) (fun O s H C cl fp => (dg_name sc.nd (i := 1) (by exact rfl) (by exact Or.inl rfl) (by exact rfl) (by exact rfl) (by first | exact Or.inl rfl | exact Or.inr rfl))) (fun O s H C cl fp => dts_nil) (fun O s H C cl fp => (dx_kn none (Γc := Γ_is_door) k_is_door (by exact rfl) takes0 hr (by decide) (by exact rfl) (by exact rfl) (fun q e => nomatch e) (da_cons (do_val (dx_ix ix_seq pv_ix (do_val (dx_var (i := 0) (by exact rfl) (by first | exact Or.inr (Or.inl rfl) | exact Or.inr (Or.inr rfl)) (by exact rfl))) (do_val dx_int) (fun _ _ => rfl))) (da_cons (do_val (dx_var (i := 1) (by exact rfl) (by exact Or.inl rfl) (by exact rfl))) da_nil))))))) da_nil)) (dx_one (dx_kn none (Γc := Γ_is_rising) k_is_rising (by exact rfl) (takes_of (by exact rfl) (by exact rfl) (by exact rfl) (by exact rfl)) hr (by decide) (by exact rfl) (by exact rfl) (fun q e => nomatch e) (da_cons (do_val (dx_ix ix_seq pv_ix (do_val (dx_var (i := 0) (by exact rfl) (by exact Or.inr (Or.inl rfl)) (by exact rfl))) (do_val dx_int) (fun _ _ => rfl))) da_nil))))))))⟩
abbrev K_need_house (P : Program) (w : World) (K : PySem.W.Frag) (mg : Str → Option Value) (base : Heap) (A : Nat → Addr) : Prop := Kn P w K mg base "need_house" 4 ["thing"] Γ_need_house (cls A) none 1 .fz m_need_house
theorem sc_need_house : FnScope ["thing"] ["thing"] (defScope s_need_house) := ⟨rfl, rfl, rfl, by decide +kernel, rfl, by decide +kernel, by decide +kernel⟩
theorem ok_need_house (T : Txt K mg A CW) (k_is_house : K_is_house P w K mg base A) : K_need_house P w K mg base A := by
  obtain ⟨f, fd, Fn, g, b⟩ := T.f_need_house
  have sc := sc_need_house
  exact ⟨f, g, Fn.kp, fd, b, fn_ok (N := ["thing"]) (lev := 3) (n := 1) (k := 0) Fn sc rfl rfl fun cdv A outer s H E O vs hr =>
    (dss_one (ds_if (dt_not (dt_val (dx_kn none (Γc := Γ_is_house) k_is_house (by exact rfl) (takes_of (by exact rfl) (by exact rfl) (by exact rfl) (by exact rfl)) hr (by decide) (by exact rfl) (by exact rfl) (fun q e => nomatch e) (da_cons (do_val (dx_var (i := 0) (by exact rfl) (by exact Or.inl rfl) (by exact rfl))) da_nil)))) (dss_one (ds_raise (by exact rfl) (takes_of (by exact rfl) (by exact rfl) (by exact rfl) (by exact rfl)) (by exact rfl) (pmk_own PySem.F.excBase_ValueError (T.xc 0) T.g_NoHouse (T.kc 0) (raises_own (T.sb 0) (T.ty 0)) (by exact rfl)))) dss_nil))⟩
abbrev K_need_names (P : Program) (w : World) (K : PySem.W.Frag) (mg : Str → Option Value) (base : Heap) (A : Nat → Addr) : Prop := Kn P w K mg base "need_names" 2 ["house", "names"] Γ_need_names (cls A) none 2 .fz m_need_names
theorem sc_need_names : FnScope ["house", "names", "one"] ["house", "names"] (defScope s_need_names) := ⟨rfl, rfl, rfl, by decide +kernel, rfl, by decide +kernel, by decide +kernel⟩
theorem ok_need_names (T : Txt K mg A CW) (k_is_whole : K_is_whole P w K mg base A) : K_need_names P w K mg base A := by
  obtain ⟨f, fd, Fn, g, b⟩ := T.f_need_names
  have sc := sc_need_names
  exact ⟨f, g, Fn.kp, fd, b, fn_ok (N := ["house", "names", "one"]) (lev := 1) (n := 2) (k := 1) Fn sc rfl rfl fun cdv A outer s H E O vs hr =>
    (dss_cons (ds_if (dt_w (dw_or (dt_not (dt_val (dx_isi .tuple (by exact rfl) (by exact rfl) T.b_isinstance (by exact rfl) T.b_tuple (by exact rfl) (do_val (dx_var (i := 1) (by exact rfl) (by exact Or.inl rfl) (by exact rfl))) (by exact rfl)))) (dw_or1 (dt_not (dt_val (dx_callB (cr_all (by exact rfl)) pv_all (by exact rfl) T.b_all (by exact rfl) (da_cons (do_val (dx_frz (dx_lc (own := [("one", 2)]) (T := (.nm 2)) (by exact rfl) sc.nd (di_of (by exact rfl) (dx_var (i := 1) (by exact rfl) (by exact Or.inl rfl) (by exact rfl))) (blkOk_by (N := ["house", "names", "one"]) (sc := defScope s_need_names) (by decide +kernel)) (by decide) (all1 (by exact rfl)) (all1 (by exact rfl)) (fun O s H C cl fp => (dg_name sc.nd (i := 2) (by exact rfl) (by exact Or.inl rfl) (by exact rfl) (by exact rfl) (by first | exact Or.inl rfl | exact Or.inr rfl))) (fun O s H C cl fp => dts_nil) (fun O s H C cl fp => (dx_kn none (Γc := Γ_is_whole) k_is_whole (by exact rfl) takes0 hr (by decide) (by exact rfl) (by exact rfl) (fun q e => nomatch e) (da_cons (do_val (dx_var (i := 2) (by exact rfl) (by exact Or.inl rfl) (by exact rfl))) (da_cons (do_val dx_int) (da_cons (do_val (dx_bin op_sub pv_sub (do_val (dx_ix ix_seq pv_ix (do_val (dx_var (i := 0) (by exact rfl) (by first | exact Or.inr (Or.inl rfl) | exact Or.inr (Or.inr rfl)) (by exact rfl))) (do_val dx_int) (fun _ _ => rfl))) (do_val dx_int))) da_nil)))))))) da_nil))))))) (dss_one (ds_raise (by exact rfl) (takes_of (by exact rfl) (by exact rfl) (by exact rfl) (by exact rfl)) (by exact rfl) (pmk_own PySem.F.excBase_ValueError (T.xc 1) T.g_NoNames (T.kc 1) (raises_own (T.sb 1) (T.ty 1)) (by exact rfl)))) dss_nil) (dss_one (ds_if (dt_w (dw_or (dt_cmp (op_neD (hu64 hr)) pv_ne (do_val (dx_frz (dx_callB (cr_sortA (hu70 hr)) pv_sortA (by exact rfl) T.b_sorted (by exact rfl) (da_cons (do_val (dx_var (i := 1) (by exact rfl) (by exact Or.inl rfl) (by exact rfl))) da_nil)))) (do_val (dx_frz (dx_lstRg (by exact rfl) (by exact rfl) T.b_list (by exact rfl) T.b_range (dx_ix ix_seq pv_ix (do_val (dx_var (i := 0) (by exact rfl) (by exact Or.inr (Or.inl rfl)) (by exact rfl))) (do_val dx_int) (fun _ _ => rfl))))) (nomark _)) (dw_or1 (dt_cmp (op_neD (hu64 hr)) pv_ne (do_val (dx_ix ix_seq pv_ix (do_val (dx_var (i := 1) (by exact rfl) (by exact Or.inl rfl) (by exact rfl))) (do_val dx_int) (fun _ _ => rfl))) (do_val dx_int) (nomark _))))) (dss_one (ds_raise (by exact rfl) (takes_of (by exact rfl) (by exact rfl) (by exact rfl) (by exact rfl)) (by exact rfl) (pmk_own PySem.F.excBase_ValueError (T.xc 1) T.g_NoNames (T.kc 1) (raises_own (T.sb 1) (T.ty 1)) (by exact rfl)))) dss_nil)))⟩
abbrev K_called (P : Program) (w : World) (K : PySem.W.Frag) (mg : Str → Option Value) (base : Heap) (A : Nat → Addr) : Prop := Kn P w K mg base "called" 1 ["thing", "names"] Γ_called (cls A) none 2 .fz m_called
theorem sc_called : FnScope ["thing", "names", "ends", "room"] ["thing", "names"] (defScope s_called) := ⟨rfl, rfl, rfl, by decide +kernel, rfl, by decide +kernel, by decide +kernel⟩
theorem ok_called (T : Txt K mg A CW) : K_called P w K mg base A := by
  obtain ⟨f, fd, Fn, g, b⟩ := T.f_called
  have sc := sc_called
  exact ⟨f, g, Fn.kp, fd, b, fn_ok (N := ["thing", "names", "ends", "room"]) (lev := 0) (n := 2) (k := 2) Fn sc rfl rfl fun cdv A outer s H E O vs hr =>
    (dss_cons (ds_if (dt_cmp (op_eqD (hu64 hr)) pv_eq (do_val (dx_ix ix_seq pv_ix (do_val (dx_var (i := 0) (by exact rfl) (by exact Or.inl rfl) (by exact rfl))) (do_val dx_int) (fun _ _ => rfl))) (do_val (dx_str (z := "room"))) (nomark _)) (dss_one (ds_ret (dx_tup (da_cons (do_val (dx_str (z := "room"))) (da_cons (do_val (dx_ix ix_seq pv_ix (do_val (dx_var (i := 1) (by exact rfl) (by exact Or.inr (Or.inl rfl)) (by exact rfl))) (do_val (dx_ix ix_seq pv_ix (do_val (dx_var (i := 0) (by exact rfl) (by exact Or.inl rfl) (by exact rfl))) (do_val dx_int) (fun _ _ => rfl))) (fun _ _ => rfl))) da_nil))))) dss_nil) (dss_cons (ds_set sc.nd (i := 2) (by exact rfl) (by exact Or.inl rfl) (by exact rfl) (by exact Or.inl rfl) (dx_frz (dx_callB (cr_sortD (hu70 hr)) pv_sort (by exact rfl) T.b_sorted (by exact rfl) (da_cons (do_val (dx_frz (dx_lc (own := [("room", 3)]) (T := (.nm 3)) (by exact rfl) sc.nd (di_of (by exact rfl) (dx_sl sl_all pv_sl (do_val (dx_var (i := 0) (by exact rfl) (by exact Or.inl rfl) (by exact rfl))) (dp_some (dx_un un_neg pv_neg (do_val dx_int))) dp_none)) (blkOk_by (N := ["thing", "names", "ends", "room"]) (sc := defScope s_called) (by decide +kernel)) (by decide) (all1 (by exact rfl)) (all1 (by exact rfl)) (fun O s H C cl fp => (dg_name sc.nd (i := 3) (by exact rfl) (by exact Or.inl rfl) (by exact rfl) (by exact rfl) (by first | exact Or.inl rfl | exact Or.inr rfl))) (fun O s H C cl fp => dts_nil) (fun O s H C cl fp => (dx_ix ix_seq pv_ix (do_val (dx_var (i := 1) (by exact rfl) (by first | exact Or.inr (Or.inl rfl) | exact Or.inr (Or.inr rfl)) (by exact rfl))) (do_val (dx_var (i := 3) (by exact rfl) (by exact Or.inl rfl) (by exact rfl))) (fun _ _ => rfl)))))) da_nil)))) (dss_one (ds_ret (dx_bin op_addA pv_add (do_val (dx_sl sl_all pv_sl (do_val (dx_var (i := 0) (by exact rfl) (by exact Or.inl rfl) (by exact rfl))) dp_none (dp_some (dx_un un_neg pv_neg (do_val dx_int))))) (do_val (dx_tup (da_cons (do_val (dx_ix ix_seq pv_ix (do_val (dx_var (i := 2) (by exact rfl) (by exact Or.inl rfl) (by exact rfl))) (do_val dx_int) (fun _ _ => rfl))) (da_cons (do_val (dx_ix ix_seq pv_ix (do_val (dx_var (i := 2) (by exact rfl) (by exact Or.inl rfl) (by exact rfl))) (do_val dx_int) (fun _ _ => rfl))) da_nil)))))))))⟩
abbrev K_renamed (P : Program) (w : World) (K : PySem.W.Frag) (mg : Str → Option Value) (base : Heap) (A : Nat → Addr) : Prop := Kn P w K mg base "renamed" 5 ["house", "names"] Γ_renamed (cls A) none 2 .fz m_renamed
theorem sc_renamed : FnScope ["house", "names", "door"] ["house", "names"] (defScope s_renamed) := ⟨rfl, rfl, rfl, by decide +kernel, rfl, by decide +kernel, by decide +kernel⟩
theorem ok_renamed (T : Txt K mg A CW) (k_need_house : K_need_house P w K mg base A) (k_need_names : K_need_names P w K mg base A) (k_called : K_called P w K mg base A) : K_renamed P w K mg base A := by
  obtain ⟨f, fd, Fn, g, b⟩ := T.f_renamed
  have sc := sc_renamed
  exact ⟨f, g, Fn.kp, fd, b, fn_ok (N := ["house", "names", "door"]) (lev := 4) (n := 2) (k := 1) Fn sc rfl rfl fun cdv A outer s H E O vs hr =>
    (dss_cons (ds_expr (dx_kn none (Γc := Γ_need_house) k_need_house (by exact rfl) (takes_of (by exact rfl) (by exact rfl) (by exact rfl) (by exact rfl)) hr (by decide) (by exact rfl) (by exact rfl) (fun q e => nomatch e) (da_cons (do_val (dx_var (i := 0) (by exact rfl) (by exact Or.inl rfl) (by exact rfl))) da_nil))) (dss_cons (ds_expr (dx_kn none (Γc := Γ_need_names) k_need_names (by exact rfl) (takes_of (by exact rfl) (by exact rfl) (by exact rfl) (by exact rfl)) hr (by decide) (by exact rfl) (by exact rfl) (fun q e => nomatch e) (da_cons (do_val (dx_var (i := 0) (by exact rfl) (by exact Or.inl rfl) (by exact rfl))) (da_cons (do_val (dx_var (i := 1) (by exact rfl) (by exact Or.inr (Or.inl rfl)) (by exact rfl))) da_nil)))) (dss_one (ds_ret (dx_tup (da_cons (do_val (dx_ix ix_seq pv_ix (do_val (dx_var (i := 0) (by exact rfl) (by exact Or.inl rfl) (by exact rfl))) (do_val dx_int) (fun _ _ => rfl))) (da_cons (do_val (dx_callTy call_tuple_of pv_tuple (by exact rfl) T.b_tuple (by exact rfl) (da_cons (do_val (dx_frz (dx_callB (cr_sortD (hu70 hr)) pv_sort (by exact rfl) T.b_sorted (by exact rfl) (da_cons (do_val (dx_frz (dx_lc (own := [("door", 2)]) (T := (.nm 2)) (by exact rfl) sc.nd (di_of (by exact rfl) (dx_ix ix_seq pv_ix (do_val (dx_var (i := 0) (by exact rfl) (by exact Or.inl rfl) (by exact rfl))) (do_val dx_int) (fun _ _ => rfl))) (blkOk_by (N := ["house", "names", "door"]) (sc := defScope s_renamed) (by decide +kernel)) (by decide) (all1 (by exact rfl)) (all1 (by exact rfl)) (fun O s H C cl fp => (dg_name sc.nd (i := 2) (by exact rfl) (by exact Or.inl rfl) (by exact rfl) (by exact rfl) (by first | exact Or.inl rfl | exact Or.inr rfl))) (fun O s H C cl fp => dts_nil) (fun O s H C cl fp => (dx_kn none (Γc := Γ_called) k_called (by exact rfl) takes0 hr (by decide) (by exact rfl) (by exact rfl) (fun q e => nomatch e) (da_cons (do_val (dx_var (i := 2) (by exact rfl) (by exact Or.inl rfl) (by exact rfl))) (da_cons (do_val (dx_var (i := 1) (by exact rfl) (by first | exact Or.inr (Or.inl rfl) | exact Or.inr (Or.inr rfl)) (by exact rfl))) da_nil))))))) da_nil)))) da_nil))) da_nil)))))))⟩
abbrev K_all_spots (P : Program) (w : World) (K : PySem.W.Frag) (mg : Str → Option Value) (base : Heap) (A : Nat → Addr) : Prop := Kn P w K mg base "all_spots" 1 ["house"] Γ_all_spots (cls A) none 1 .fz m_all_spots
theorem sc_all_spots : FnScope ["house", "door", "room"] ["house"] (defScope s_all_spots) := ⟨rfl, rfl, rfl, by decide +kernel, rfl, by decide +kernel, by decide +kernel⟩
theorem ok_all_spots (T : Txt K mg A CW) : K_all_spots P w K mg base A := by
  obtain ⟨f, fd, Fn, g, b⟩ := T.f_all_spots
  have sc := sc_all_spots
  exact ⟨f, g, Fn.kp, fd, b, fn_ok (N := ["house", "door", "room"]) (lev := 0) (n := 1) (k := 2) Fn sc rfl rfl fun cdv A outer s H E O vs hr =>
    (dss_one (ds_ret (dx_bin op_addA pv_add (do_val (dx_frz (dx_lc (own := [("door", 1)]) (T := (.nm 1)) (by exact rfl) sc.nd (di_of (by exact rfl) (dx_ix ix_seq pv_ix (do_val (dx_var (i := 0) (by exact rfl) (by exact Or.inl rfl) (by exact rfl))) (do_val dx_int) (fun _ _ => rfl))) (blkOk_by (N := ["house", "door", "room"]) (sc := defScope s_all_spots) (by decide +kernel)) (by decide) (all1 (by exact rfl)) (all1 (by exact rfl)) (fun O s H C cl fp => (dg_name sc.nd (i := 1) (by exact rfl) (by exact Or.inl rfl) (by exact rfl) (by exact rfl) (by first | exact Or.inl rfl | exact Or.inr rfl))) (fun O s H C cl fp => dts_nil) (fun O s H C cl fp => (dx_bin op_addA pv_add (do_val (dx_tup (da_cons (do_val (dx_str (z := "door"))) da_nil))) (do_val (dx_var (i := 1) (by exact rfl) (by exact Or.inl rfl) (by exact rfl)))))))) (do_val (dx_frz (dx_lc (own := [("room", 2)]) (T := (.nm 2)) (by exact rfl) sc.nd (di_range2 (by exact rfl) T.b_range dx_int (dx_ix ix_seq pv_ix (do_val (dx_var (i := 0) (by exact rfl) (by exact Or.inl rfl) (by exact rfl))) (do_val dx_int) (fun _ _ => rfl))) (blkOk_by (N := ["house", "door", "room"]) (sc := defScope s_all_spots) (by decide +kernel)) (by decide) (all1 (by exact rfl)) (all1 (by exact rfl)) (fun O s H C cl fp => (dg_name sc.nd (i := 2) (by exact rfl) (by exact Or.inl rfl) (by exact rfl) (by exact rfl) (by first | exact Or.inl rfl | exact Or.inr rfl))) (fun O s H C cl fp => dts_nil) (fun O s H C cl fp => (dx_tup (da_cons (do_val (dx_str (z := "room"))) (da_cons (do_val (dx_var (i := 2) (by exact rfl) (by exact Or.inl rfl) (by exact rfl))) da_nil))))))))))⟩
abbrev K_is_spot (P : Program) (w : World) (K : PySem.W.Frag) (mg : Str → Option Value) (base : Heap) (A : Nat → Addr) : Prop := Kn P w K mg base "is_spot" 2 ["house", "thing"] Γ_is_spot (cls A) none 2 .fz m_is_spot
theorem sc_is_spot : FnScope ["house", "thing", "number"] ["house", "thing"] (defScope s_is_spot) := ⟨rfl, rfl, rfl, by decide +kernel, rfl, by decide +kernel, by decide +kernel⟩
theorem ok_is_spot (T : Txt K mg A CW) (k_is_whole : K_is_whole P w K mg base A) (k_all_spots : K_all_spots P w K mg base A) : K_is_spot P w K mg base A := by
  obtain ⟨f, fd, Fn, g, b⟩ := T.f_is_spot
  have sc := sc_is_spot
  exact ⟨f, g, Fn.kp, fd, b, fn_ok (N := ["house", "thing", "number"]) (lev := 1) (n := 2) (k := 1) Fn sc rfl rfl fun cdv A outer s H E O vs hr =>
    (dss_cons (ds_if (dt_w (dw_or (dt_not (dt_val (dx_isi .tuple (by exact rfl) (by exact rfl) T.b_isinstance (by exact rfl) T.b_tuple (by exact rfl) (do_val (dx_var (i := 1) (by exact rfl) (by exact Or.inl rfl) (by exact rfl))) (by exact rfl)))) (dw_or (dt_cmp (op_eqD (hu64 hr)) pv_eq (do_val (dx_var (i := 1) (by exact rfl) (by exact Or.inl rfl) (by exact rfl))) (do_val (dx_tup da_nil)) (nomark _)) (dw_or1 (dt_not (dt_val (dx_isi .str (by exact rfl) (by exact rfl) T.b_isinstance (by exact rfl) T.b_str (by exact rfl) (do_val (dx_ix ix_seq pv_ix (do_val (dx_var (i := 1) (by exact rfl) (by exact Or.inl rfl) (by exact rfl))) (do_val dx_int) (fun _ _ => rfl))) (by exact rfl)))))))) (dss_one (ds_ret dx_bl)) dss_nil) (dss_cons (ds_if (dt_not (dt_val (dx_callB (cr_all (by exact rfl)) pv_all (by exact rfl) T.b_all (by exact rfl) (da_cons (do_val (dx_frz (dx_lc (own := [("number", 2)]) (T := (.nm 2)) (by exact rfl) sc.nd (di_of (by exact rfl) (dx_sl sl_all pv_sl (do_val (dx_var (i := 1) (by exact rfl) (by exact Or.inl rfl) (by exact rfl))) (dp_some dx_int) dp_none)) (blkOk_by (N := ["house", "thing", "number"]) (sc := defScope s_is_spot) (by decide +kernel)) (by decide) (all1 (by exact rfl)) (all1 (by exact rfl)) (fun O s H C cl fp => (dg_name sc.nd (i := 2) (by exact rfl) (by exact Or.inl rfl) (by exact rfl) (by exact rfl) (by first | exact Or.inl rfl | exact Or.inr rfl))) (fun O s H C cl fp => dts_nil) (fun O s H C cl fp => (dx_kn none (Γc := Γ_is_whole) k_is_whole (by exact rfl) takes0 hr (by decide) (by exact rfl) (by exact rfl) (fun q e => nomatch e) (da_cons (do_val (dx_var (i := 2) (by exact rfl) (by exact Or.inl rfl) (by exact rfl))) (da_cons (do_val dx_int) (da_cons (do_val (dx_ix ix_seq pv_ix (do_val (dx_var (i := 0) (by exact rfl) (by first | exact Or.inr (Or.inl rfl) | exact Or.inr (Or.inr rfl)) (by exact rfl))) (do_val dx_int) (fun _ _ => rfl))) da_nil)))))))) da_nil)))) (dss_one (ds_ret dx_bl)) dss_nil) (dss_one (ds_ret (dx_cmp (op_inA (hu65 hr)) pv_in (do_val (dx_var (i := 1) (by exact rfl) (by exact Or.inl rfl) (by exact rfl))) (do_val (dx_kn none (Γc := Γ_all_spots) k_all_spots (by exact rfl) (takes_of (by exact rfl) (by exact rfl) (by exact rfl) (by exact rfl)) hr (by decide) (by exact rfl) (by exact rfl) (fun q e => nomatch e) (da_cons (do_val (dx_var (i := 0) (by exact rfl) (by exact Or.inr (Or.inl rfl)) (by exact rfl))) da_nil))) (by with_unfolding_all rfl))))))⟩
abbrev K_is_watcher (P : Program) (w : World) (K : PySem.W.Frag) (mg : Str → Option Value) (base : Heap) (A : Nat → Addr) : Prop := Kn P w K mg base "is_watcher" 3 ["house", "thing"] Γ_is_watcher (cls A) none 2 .fz m_is_watcher
theorem sc_is_watcher : FnScope ["house", "thing", "sign"] ["house", "thing"] (defScope s_is_watcher) := ⟨rfl, rfl, rfl, by decide +kernel, rfl, by decide +kernel, by decide +kernel⟩
theorem ok_is_watcher (T : Txt K mg A CW) (k_is_spot : K_is_spot P w K mg base A) : K_is_watcher P w K mg base A := by
  obtain ⟨f, fd, Fn, g, b⟩ := T.f_is_watcher
  have sc := sc_is_watcher
  exact ⟨f, g, Fn.kp, fd, b, fn_ok (N := ["house", "thing", "sign"]) (lev := 2) (n := 2) (k := 1) Fn sc rfl rfl fun cdv A outer s H E O vs hr =>
    (dss_cons (ds_if (dt_w (dw_or (dt_not (dt_val (dx_isi .tuple (by exact rfl) (by exact rfl) T.b_isinstance (by exact rfl) T.b_tuple (by exact rfl) (do_val (dx_var (i := 1) (by exact rfl) (by exact Or.inl rfl) (by exact rfl))) (by exact rfl)))) (dw_or (dt_cmp (op_neD (hu64 hr)) pv_ne (do_val (dx_callB call_lenA pv_len (by exact rfl) T.b_len (by exact rfl) (da_cons (do_val (dx_var (i := 1) (by exact rfl) (by exact Or.inl rfl) (by exact rfl))) da_nil))) (do_val dx_int) (nomark _)) (dw_or1 (dt_not (dt_val (dx_kn none (Γc := Γ_is_spot) k_is_spot (by exact rfl) (takes_of (by exact rfl) (by exact rfl) (by exact rfl) (by exact rfl)) hr (by decide) (by exact rfl) (by exact rfl) (fun q e => nomatch e) (da_cons (do_val (dx_var (i := 0) (by exact rfl) (by exact Or.inl rfl) (by exact rfl))) (da_cons (do_val (dx_ix ix_seq pv_ix (do_val (dx_var (i := 1) (by exact rfl) (by exact Or.inl rfl) (by exact rfl))) (do_val dx_int) (fun _ _ => rfl))) da_nil))))))))) (dss_one (ds_ret dx_bl)) dss_nil) (dss_one (ds_ret (dx_and (dx_isi .str (by exact rfl) (by exact rfl) T.b_isinstance (by exact rfl) T.b_str (by exact rfl) (do_val (dx_ix ix_seq pv_ix (do_val (dx_var (i := 1) (by exact rfl) (by exact Or.inl rfl) (by exact rfl))) (do_val dx_int) (fun _ _ => rfl))) (by exact rfl)) (dx_and (dx_chain (op_leD (hu64 hr)) (op_leD (hu64 hr)) pv_cmp pv_cmp (do_val dx_int) (do_val (dx_callB call_lenA pv_len (by exact rfl) T.b_len (by exact rfl) (da_cons (do_val (dx_ix ix_seq pv_ix (do_val (dx_var (i := 1) (by exact rfl) (by exact Or.inl rfl) (by exact rfl))) (do_val dx_int) (fun _ _ => rfl))) da_nil))) (do_val (dx_gI (by exact rfl) T.c_BEATS)) (by with_unfolding_all rfl)) (dx_one (dx_callB (cr_all (by exact rfl)) pv_all (by exact rfl) T.b_all (by exact rfl) (da_cons (do_val (dx_frz (dx_lc (own := [("sign", 2)]) (T := (.nm 2)) (by exact rfl) sc.nd (di_of (by exact rfl) (dx_ix ix_seq pv_ix (do_val (dx_var (i := 1) (by exact rfl) (by exact Or.inl rfl) (by exact rfl))) (do_val dx_int) (fun _ _ => rfl))) (blkOk_by (N := ["house", "thing", "sign"]) (sc := defScope s_is_watcher) (by decide +kernel)) (by decide) (all1 (by exact rfl)) (all1 (by exact rfl)) (fun O s H C cl fp => (dg_name sc.nd (i := 2) (by exact rfl) (by exact Or.inl rfl) (by exact rfl) (by exact rfl) (by first | exact Or.inl rfl | exact Or.inr rfl))) (fun O s H C cl fp => dts_nil) (fun O s H C cl fp => (dx_cmp (op_inA (hu65 hr)) pv_in (do_val (dx_var (i := 2) (by exact rfl) (by exact Or.inl rfl) (by exact rfl))) (do_val (dx_str (z := "#."))) (by with_unfolding_all rfl)))))) da_nil))))))))⟩
abbrev K_are_watching (P : Program) (w : World) (K : PySem.W.Frag) (mg : Str → Option Value) (base : Heap) (A : Nat → Addr) : Prop := Kn P w K mg base "are_watching" 4 ["house", "thing"] Γ_are_watching (cls A) none 2 .fz m_are_watching
theorem sc_are_watching : FnScope ["house", "thing", "one"] ["house", "thing"] (defScope s_are_watching) := ⟨rfl, rfl, rfl, by decide +kernel, rfl, by decide +kernel, by decide +kernel⟩
theorem ok_are_watching (T : Txt K mg A CW) (k_is_watcher : K_is_watcher P w K mg base A) (k_is_rising : K_is_rising P w K mg base A) : K_are_watching P w K mg base A := by
  obtain ⟨f, fd, Fn, g, b⟩ := T.f_are_watching
  have sc := sc_are_watching
  exact ⟨f, g, Fn.kp, fd, b, fn_ok (N := ["house", "thing", "one"]) (lev := 3) (n := 2) (k := 1) Fn sc rfl rfl fun cdv A outer s H E O vs hr =>
    (dss_cons (ds_if (dt_w (dw_or (dt_not (dt_val (dx_isi .tuple (by exact rfl) (by exact rfl) T.b_isinstance (by exact rfl) T.b_tuple (by exact rfl) (do_val (dx_var (i := 1) (by exact rfl) (by exact Or.inl rfl) (by exact rfl))) (by exact rfl)))) (dw_or (dt_cmp (op_gtD (hu64 hr)) pv_cmp (do_val (dx_callB call_lenA pv_len (by exact rfl) T.b_len (by exact rfl) (da_cons (do_val (dx_var (i := 1) (by exact rfl) (by exact Or.inl rfl) (by exact rfl))) da_nil))) (do_val (dx_gI (by exact rfl) T.c_WATCHERS)) (nomark _)) (dw_or1 (dt_not (dt_val (dx_callB (cr_all (by exact rfl)) pv_all (by exact rfl) T.b_all (by exact rfl) (da_cons (do_val (dx_frz (dx_lc (own := [("one", 2)]) (T := (.nm 2)) (by exact rfl) sc.nd (di_of (by exact rfl) (dx_var (i := 1) (by exact rfl) (by exact Or.inl rfl) (by exact rfl))) (blkOk_by (N := ["house", "thing", "one"]) (sc := defScope s_are_watching) (by decide +kernel)) (by decide) (all1 (by exact rfl)) (all1 (by exact rfl)) (fun O s H C cl fp => (dg_name sc.nd (i := 2) (by exact rfl) (by exact Or.inl rfl) (by exact rfl) (by exact rfl) (by first | exact Or.inl rfl | exact Or.inr rfl))) (fun O s H C cl fp => dts_nil) (fun O s H C cl fp => (dx_kn none (Γc := Γ_is_watcher) k_is_watcher (by exact rfl) takes0 hr (by decide) (by exact rfl) (by exact rfl) (fun q e => nomatch e) (da_cons (do_val (dx_var (i := 0) (by exact rfl) (by first | exact Or.inr (Or.inl rfl) | exact Or.inr (Or.inr rfl)) (by exact rfl))) (da_cons (do_val (dx_var (i := 2) (by exact rfl) (by exact Or.inl rfl) (by exact rfl))) da_nil))))))) da_nil)))))))) (dss_one (ds_ret dx_bl)) dss_nil) (dss_one (ds_ret (dx_kn none (Γc := Γ_is_rising) k_is_rising (by exact rfl) (takes_of (by exact rfl) (by exact rfl) (by exact rfl) (by exact rfl)) hr (by decide) (by exact rfl) (by exact rfl) (fun q e => nomatch e) (da_cons (do_val (dx_var (i := 1) (by exact rfl) (by exact Or.inl rfl) (by exact rfl))) da_nil)))))⟩
abbrev K_need_watchers (P : Program) (w : World) (K : PySem.W.Frag) (mg : Str → Option Value) (base : Heap) (A : Nat → Addr) : Prop := Kn P w K mg base "need_watchers" 5 ["house", "thing"] Γ_need_watchers (cls A) none 2 .fz m_need_watchers
theorem sc_need_watchers : FnScope ["house", "thing"] ["house", "thing"] (defScope s_need_watchers) := ⟨rfl, rfl, rfl, by decide +kernel, rfl, by decide +kernel, by decide +kernel⟩
theorem ok_need_watchers (T : Txt K mg A CW) (k_need_house : K_need_house P w K mg base A) (k_are_watching : K_are_watching P w K mg base A) : K_need_watchers P w K mg base A := by
  obtain ⟨f, fd, Fn, g, b⟩ := T.f_need_watchers
  have sc := sc_need_watchers
  exact ⟨f, g, Fn.kp, fd, b, fn_ok (N := ["house", "thing"]) (lev := 4) (n := 2) (k := 0) Fn sc rfl rfl fun cdv A outer s H E O vs hr =>
    (dss_cons (ds_expr (dx_kn none (Γc := Γ_need_house) k_need_house (by exact rfl) (takes_of (by exact rfl) (by exact rfl) (by exact rfl) (by exact rfl)) hr (by decide) (by exact rfl) (by exact rfl) (fun q e => nomatch e) (da_cons (do_val (dx_var (i := 0) (by exact rfl) (by exact Or.inl rfl) (by exact rfl))) da_nil))) (dss_one (ds_if (dt_not (dt_val (dx_kn none (Γc := Γ_are_watching) k_are_watching (by exact rfl) (takes_of (by exact rfl) (by exact rfl) (by exact rfl) (by exact rfl)) hr (by decide) (by exact rfl) (by exact rfl) (fun q e => nomatch e) (da_cons (do_val (dx_var (i := 0) (by exact rfl) (by exact Or.inl rfl) (by exact rfl))) (da_cons (do_val (dx_var (i := 1) (by exact rfl) (by exact Or.inl rfl) (by exact rfl))) da_nil))))) (dss_one (ds_raise (by exact rfl) (takes_of (by exact rfl) (by exact rfl) (by exact rfl) (by exact rfl)) (by exact rfl) (pmk_own PySem.F.excBase_ValueError (T.xc 2) T.g_NoWatchers (T.kc 2) (raises_own (T.sb 2) (T.ty 2)) (by exact rfl)))) dss_nil)))⟩
abbrev K_renamed_watchers (P : Program) (w : World) (K : PySem.W.Frag) (mg : Str → Option Value) (base : Heap) (A : Nat → Addr) : Prop := Kn P w K mg base "renamed_watchers" 6 ["house", "watchers", "names"] Γ_renamed_watchers (cls A) none 3 .fz m_renamed_watchers
theorem sc_renamed_watchers : FnScope ["house", "watchers", "names", "spot", "beats"] ["house", "watchers", "names"] (defScope s_renamed_watchers) := ⟨rfl, rfl, rfl, by decide +kernel, rfl, by decide +kernel, by decide +kernel⟩
theorem ok_renamed_watchers (T : Txt K mg A CW) (k_need_watchers : K_need_watchers P w K mg base A) (k_need_names : K_need_names P w K mg base A) (k_called : K_called P w K mg base A) : K_renamed_watchers P w K mg base A := by
  obtain ⟨f, fd, Fn, g, b⟩ := T.f_renamed_watchers
  have sc := sc_renamed_watchers
  exact ⟨f, g, Fn.kp, fd, b, fn_ok (N := ["house", "watchers", "names", "spot", "beats"]) (lev := 5) (n := 3) (k := 2) Fn sc rfl rfl fun cdv A outer s H E O vs hr =>
    (dss_cons (ds_expr (dx_kn none (Γc := Γ_need_watchers) k_need_watchers (by exact rfl) (takes_of (by exact rfl) (by exact rfl) (by exact rfl) (by exact rfl)) hr (by decide) (by exact rfl) (by exact rfl) (fun q e => nomatch e) (da_cons (do_val (dx_var (i := 0) (by exact rfl) (by exact Or.inl rfl) (by exact rfl))) (da_cons (do_val (dx_var (i := 1) (by exact rfl) (by exact Or.inl rfl) (by exact rfl))) da_nil)))) (dss_cons (ds_expr (dx_kn none (Γc := Γ_need_names) k_need_names (by exact rfl) (takes_of (by exact rfl) (by exact rfl) (by exact rfl) (by exact rfl)) hr (by decide) (by exact rfl) (by exact rfl) (fun q e => nomatch e) (da_cons (do_val (dx_var (i := 0) (by exact rfl) (by exact Or.inl rfl) (by exact rfl))) (da_cons (do_val (dx_var (i := 2) (by exact rfl) (by exact Or.inr (Or.inl rfl)) (by exact rfl))) da_nil)))) (dss_one (ds_ret (dx_callTy call_tuple_of pv_tuple (by exact rfl) T.b_tuple (by exact rfl) (da_cons (do_val (dx_frz (dx_callB (cr_sortD (hu70 hr)) pv_sort (by exact rfl) T.b_sorted (by exact rfl) (da_cons (do_val (dx_frz (dx_lc (own := [("spot", 3), ("beats", 4)]) (T := (.tp [(.nm 3), (.nm 4)])) (by exact rfl) sc.nd (di_of (by exact rfl) (dx_var (i := 1) (by exact rfl) (by exact Or.inl rfl) (by exact rfl))) (blkOk_by (N := ["house", "watchers", "names", "spot", "beats"]) (sc := defScope s_renamed_watchers) (by decide +kernel)) (by decide) (all2 (by exact rfl) (by exact rfl)) (all2 (by exact rfl) (by exact rfl)) (fun O s H C cl fp => (dg_tup (by exact rfl) (dgs_cons (dg_name sc.nd (i := 3) (by exact rfl) (by exact Or.inl rfl) (by exact rfl) (by exact rfl) (by first | exact Or.inl rfl | exact Or.inr rfl)) (dgs_cons (dg_name sc.nd (i := 4) (by exact rfl) (by exact Or.inl rfl) (by exact rfl) (by exact rfl) (by first | exact Or.inl rfl | exact Or.inr rfl)) dgs_nil)) (n := 2) (by exact rfl) (by exact rfl) (by exact rfl))) (fun O s H C cl fp => dts_nil) (fun O s H C cl fp => (dx_tup (da_cons (do_val (dx_kn none (Γc := Γ_called) k_called (by exact rfl) takes0 hr (by decide) (by exact rfl) (by exact rfl) (fun q e => nomatch e) (da_cons (do_val (dx_var (i := 3) (by exact rfl) (by exact Or.inl rfl) (by exact rfl))) (da_cons (do_val (dx_var (i := 2) (by exact rfl) (by first | exact Or.inr (Or.inl rfl) | exact Or.inr (Or.inr rfl)) (by exact rfl))) da_nil)))) (da_cons (do_val (dx_var (i := 4) (by exact rfl) (by exact Or.inl rfl) (by exact rfl))) da_nil))))))) da_nil)))) da_nil))))))⟩
abbrev K_beside (P : Program) (w : World) (K : PySem.W.Frag) (mg : Str → Option Value) (base : Heap) (A : Nat → Addr) : Prop := Kn P w K mg base "beside" 1 ["house", "room"] Γ_beside (cls A) none 2 .fz m_beside
theorem sc_beside : FnScope ["house", "room", "made", "one", "other"] ["house", "room"] (defScope s_beside) := ⟨rfl, rfl, rfl, by decide +kernel, rfl, by decide +kernel, by decide +kernel⟩
theorem ok_beside (T : Txt K mg A CW) : K_beside P w K mg base A := by
  obtain ⟨f, fd, Fn, g, b⟩ := T.f_beside
  have sc := sc_beside
  exact ⟨f, g, Fn.kp, fd, b, fn_ok (N := ["house", "room", "made", "one", "other"]) (lev := 0) (n := 2) (k := 3) Fn sc rfl rfl fun cdv A outer s H E O vs hr =>
    (dss_cons (ds_set sc.nd (i := 2) (by exact rfl) (by exact Or.inl rfl) (by exact rfl) (by exact Or.inl rfl) (dx_bin op_addA pv_add (do_val (dx_frz (dx_lc (own := [("one", 3), ("other", 4)]) (T := (.tp [(.nm 3), (.nm 4)])) (by exact rfl) sc.nd (di_of (by exact rfl) (dx_ix ix_seq pv_ix (do_val (dx_var (i := 0) (by exact rfl) (by exact Or.inl rfl) (by exact rfl))) (do_val dx_int) (fun _ _ => rfl))) (blkOk_by (N := ["house", "room", "made", "one", "other"]) (sc := defScope s_beside) (by decide +kernel)) (by decide) (all2 (by exact rfl) (by exact rfl)) (all2 (by exact rfl) (by exact rfl)) (fun O s H C cl fp => (dg_tup (by exact rfl) (dgs_cons (dg_name sc.nd (i := 3) (by exact rfl) (by exact Or.inl rfl) (by exact rfl) (by exact rfl) (by first | exact Or.inl rfl | exact Or.inr rfl)) (dgs_cons (dg_name sc.nd (i := 4) (by exact rfl) (by exact Or.inl rfl) (by exact rfl) (by exact rfl) (by first | exact Or.inl rfl | exact Or.inr rfl)) dgs_nil)) (n := 2) (by exact rfl) (by exact rfl) (by exact rfl))) (fun O s H C cl fp => (dts_one (dt_cmp (op_eqD (hu64 hr)) pv_eq (do_val (dx_var (i := 3) (by exact rfl) (by exact Or.inl rfl) (by exact rfl))) (do_val (dx_var (i := 1) (by exact rfl) (by first | exact Or.inr (Or.inl rfl) | exact Or.inr (Or.inr rfl)) (by exact rfl))) (nomark _)))) (fun O s H C cl fp => (dx_var (i := 4) (by exact rfl) (by exact Or.inl rfl) (by exact rfl)))))) (do_val (dx_frz (dx_lc (own := [("one", 3), ("other", 4)]) (T := (.tp [(.nm 3), (.nm 4)])) (by exact rfl) sc.nd (di_of (by exact rfl) (dx_ix ix_seq pv_ix (do_val (dx_var (i := 0) (by exact rfl) (by exact Or.inl rfl) (by exact rfl))) (do_val dx_int) (fun _ _ => rfl))) (blkOk_by (N := ["house", "room", "made", "one", "other"]) (sc := defScope s_beside) (by decide +kernel)) (by decide) (all2 (by exact rfl) (by exact rfl)) (all2 (by exact rfl) (by exact rfl)) (fun O s H C cl fp => (dg_tup (by exact rfl) (dgs_cons (dg_name sc.nd (i := 3) (by exact rfl) (by exact Or.inl rfl) (by exact rfl) (by exact rfl) (by first | exact Or.inl rfl | exact Or.inr rfl)) (dgs_cons (dg_name sc.nd (i := 4) (by exact rfl) (by exact Or.inl rfl) (by exact rfl) (by exact rfl) (by first | exact Or.inl rfl | exact Or.inr rfl)) dgs_nil)) (n := 2) (by exact rfl) (by exact rfl) (by exact rfl))) (fun O s H C cl fp => (dts_one (dt_cmp (op_eqD (hu64 hr)) pv_eq (do_val (dx_var (i := 4) (by exact rfl) (by exact Or.inl rfl) (by exact rfl))) (do_val (dx_var (i := 1) (by exact rfl) (by first | exact Or.inr (Or.inl rfl) | exact Or.inr (Or.inr rfl)) (by exact rfl))) (nomark _)))) (fun O s H C cl fp => (dx_var (i := 3) (by exact rfl) (by exact Or.inl rfl) (by exact rfl)))))))) (dss_one (ds_ret (dx_frz (dx_callB (cr_sortD (hu70 hr)) pv_sort (by exact rfl) T.b_sorted (by exact rfl) (da_cons (do_val (dx_var (i := 2) (by exact rfl) (by exact Or.inl rfl) (by exact rfl))) da_nil))))))⟩
abbrev K_is_way (P : Program) (w : World) (K : PySem.W.Frag) (mg : Str → Option Value) (base : Heap) (A : Nat → Addr) : Prop := Kn P w K mg base "is_way" 2 ["house", "thing"] Γ_is_way (cls A) none 2 .fz m_is_way
theorem sc_is_way : FnScope ["house", "thing", "room", "one", "other"] ["house", "thing"] (defScope s_is_way) := ⟨rfl, rfl, rfl, by decide +kernel, rfl, by decide +kernel, by decide +kernel⟩
theorem ok_is_way (T : Txt K mg A CW) (k_is_whole : K_is_whole P w K mg base A) (k_beside : K_beside P w K mg base A) : K_is_way P w K mg base A := by
  obtain ⟨f, fd, Fn, g, b⟩ := T.f_is_way
  have sc := sc_is_way
  exact ⟨f, g, Fn.kp, fd, b, fn_ok (N := ["house", "thing", "room", "one", "other"]) (lev := 1) (n := 2) (k := 3) Fn sc rfl rfl fun cdv A outer s H E O vs hr =>
    (dss_cons (ds_if (dt_w (dw_or (dt_not (dt_val (dx_isi .tuple (by exact rfl) (by exact rfl) T.b_isinstance (by exact rfl) T.b_tuple (by exact rfl) (do_val (dx_var (i := 1) (by exact rfl) (by exact Or.inl rfl) (by exact rfl))) (by exact rfl)))) (dw_or1 (dt_not (dt_chain (op_leD (hu64 hr)) (op_leD (hu64 hr)) pv_cmp pv_cmp (do_val dx_int) (do_val (dx_callB call_lenA pv_len (by exact rfl) T.b_len (by exact rfl) (da_cons (do_val (dx_var (i := 1) (by exact rfl) (by exact Or.inl rfl) (by exact rfl))) da_nil))) (do_val (dx_gI (by exact rfl) T.c_LONG)) (by with_unfolding_all rfl)))))) (dss_one (ds_ret dx_bl)) dss_nil) (dss_cons (ds_if (dt_w (dw_or (dt_not (dt_val (dx_callB (cr_all (by exact rfl)) pv_all (by exact rfl) T.b_all (by exact rfl) (da_cons (do_val (dx_frz (dx_lc (own := [("room", 2)]) (T := (.nm 2)) (by exact rfl) sc.nd (di_of (by exact rfl) (dx_var (i := 1) (by exact rfl) (by exact Or.inl rfl) (by exact rfl))) (blkOk_by (N := ["house", "thing", "room", "one", "other"]) (sc := defScope s_is_way) (by decide +kernel)) (by decide) (all1 (by exact rfl)) (all1 (by exact rfl)) (fun O s H C cl fp => (dg_name sc.nd (i := 2) (by exact rfl) (by exact Or.inl rfl) (by exact rfl) (by exact rfl) (by first | exact Or.inl rfl | exact Or.inr rfl))) (fun O s H C cl fp => dts_nil) (fun O s H C cl fp => (dx_kn none (Γc := Γ_is_whole) k_is_whole (by exact rfl) takes0 hr (by decide) (by exact rfl) (by exact rfl) (fun q e => nomatch e) (da_cons (do_val (dx_var (i := 2) (by exact rfl) (by exact Or.inl rfl) (by exact rfl))) (da_cons (do_val dx_int) (da_cons (do_val (dx_bin op_sub pv_sub (do_val (dx_ix ix_seq pv_ix (do_val (dx_var (i := 0) (by exact rfl) (by first | exact Or.inr (Or.inl rfl) | exact Or.inr (Or.inr rfl)) (by exact rfl))) (do_val dx_int) (fun _ _ => rfl))) (do_val dx_int))) da_nil)))))))) da_nil)))) (dw_or1 (dt_cmp (op_neD (hu64 hr)) pv_ne (do_val (dx_ix ix_seq pv_ix (do_val (dx_var (i := 1) (by exact rfl) (by exact Or.inl rfl) (by exact rfl))) (do_val dx_int) (fun _ _ => rfl))) (do_val dx_int) (nomark _))))) (dss_one (ds_ret dx_bl)) dss_nil) (dss_one (ds_ret (dx_callB (cr_all (by exact rfl)) pv_all (by exact rfl) T.b_all (by exact rfl) (da_cons (do_val (dx_frz (dx_lc (own := [("one", 3), ("other", 4)]) (T := (.tp [(.nm 3), (.nm 4)])) (by exact rfl) sc.nd (di_zip (by exact rfl) (by exact rfl) T.b_zip (dx_var (i := 1) (by exact rfl) (by exact Or.inl rfl) (by exact rfl)) (dx_sl sl_all pv_sl (do_val (dx_var (i := 1) (by exact rfl) (by exact Or.inl rfl) (by exact rfl))) (dp_some dx_int) dp_none)) (blkOk_by (N := ["house", "thing", "room", "one", "other"]) (sc := defScope s_is_way) (by decide +kernel)) (by decide) (all2 (by exact rfl) (by exact rfl)) (all2 (by exact rfl) (by exact rfl)) (fun O s H C cl fp => (dg_tup (by exact rfl) (dgs_cons (dg_name sc.nd (i := 3) (by exact rfl) (by exact Or.inl rfl) (by exact rfl) (by exact rfl) (by first | exact Or.inl rfl | exact Or.inr rfl)) (dgs_cons (dg_name sc.nd (i := 4) (by exact rfl) (by exact Or.inl rfl) (by exact rfl) (by exact rfl) (by first | exact Or.inl rfl | exact Or.inr rfl)) dgs_nil)) (n := 2) (by exact rfl) (by exact rfl) (by exact rfl))) (fun O s H C cl fp => dts_nil) (fun O s H C cl fp => (dx_or (dx_cmp (op_eqD (hu64 hr)) pv_eq (do_val (dx_var (i := 3) (by exact rfl) (by exact Or.inl rfl) (by exact rfl))) (do_val (dx_var (i := 4) (by exact rfl) (by exact Or.inl rfl) (by exact rfl))) (nomark _)) (dx_one (dx_cmp (op_inA (hu65 hr)) pv_in (do_val (dx_var (i := 4) (by exact rfl) (by exact Or.inl rfl) (by exact rfl))) (do_val (dx_kn none (Γc := Γ_beside) k_beside (by exact rfl) takes0 hr (by decide) (by exact rfl) (by exact rfl) (fun q e => nomatch e) (da_cons (do_val (dx_var (i := 0) (by exact rfl) (by first | exact Or.inr (Or.inl rfl) | exact Or.inr (Or.inr rfl)) (by exact rfl))) (da_cons (do_val (dx_var (i := 3) (by exact rfl) (by exact Or.inl rfl) (by exact rfl))) da_nil)))) (by with_unfolding_all rfl)))))))) da_nil))))))⟩
abbrev K_renamed_way (P : Program) (w : World) (K : PySem.W.Frag) (mg : Str → Option Value) (base : Heap) (A : Nat → Addr) : Prop := Kn P w K mg base "renamed_way" 5 ["house", "way", "names"] Γ_renamed_way (cls A) none 3 .fz m_renamed_way
theorem sc_renamed_way : FnScope ["house", "way", "names", "room"] ["house", "way", "names"] (defScope s_renamed_way) := ⟨rfl, rfl, rfl, by decide +kernel, rfl, by decide +kernel, by decide +kernel⟩
theorem ok_renamed_way (T : Txt K mg A CW) (k_need_house : K_need_house P w K mg base A) (k_is_way : K_is_way P w K mg base A) (k_need_names : K_need_names P w K mg base A) : K_renamed_way P w K mg base A := by
  obtain ⟨f, fd, Fn, g, b⟩ := T.f_renamed_way
  have sc := sc_renamed_way
  exact ⟨f, g, Fn.kp, fd, b, fn_ok (N := ["house", "way", "names", "room"]) (lev := 4) (n := 3) (k := 1) Fn sc rfl rfl fun cdv A outer s H E O vs hr =>
    (dss_cons (ds_expr (dx_kn none (Γc := Γ_need_house) k_need_house (by exact rfl) (takes_of (by exact rfl) (by exact rfl) (by exact rfl) (by exact rfl)) hr (by decide) (by exact rfl) (by exact rfl) (fun q e => nomatch e) (da_cons (do_val (dx_var (i := 0) (by exact rfl) (by exact Or.inl rfl) (by exact rfl))) da_nil))) (dss_cons (ds_if (dt_not (dt_val (dx_kn none (Γc := Γ_is_way) k_is_way (by exact rfl) (takes_of (by exact rfl) (by exact rfl) (by exact rfl) (by exact rfl)) hr (by decide) (by exact rfl) (by exact rfl) (fun q e => nomatch e) (da_cons (do_val (dx_var (i := 0) (by exact rfl) (by exact Or.inl rfl) (by exact rfl))) (da_cons (do_val (dx_var (i := 1) (by exact rfl) (by exact Or.inl rfl) (by exact rfl))) da_nil))))) (dss_one (ds_raise (by exact rfl) (takes_of (by exact rfl) (by exact rfl) (by exact rfl) (by exact rfl)) (by exact rfl) (pmk_own PySem.F.excBase_ValueError (T.xc 3) T.g_NoWay (T.kc 3) (raises_own (T.sb 3) (T.ty 3)) (by exact rfl)))) dss_nil) (dss_cons (ds_expr (dx_kn none (Γc := Γ_need_names) k_need_names (by exact rfl) (takes_of (by exact rfl) (by exact rfl) (by exact rfl) (by exact rfl)) hr (by decide) (by exact rfl) (by exact rfl) (fun q e => nomatch e) (da_cons (do_val (dx_var (i := 0) (by exact rfl) (by exact Or.inl rfl) (by exact rfl))) (da_cons (do_val (dx_var (i := 2) (by exact rfl) (by exact Or.inr (Or.inl rfl)) (by exact rfl))) da_nil)))) (dss_one (ds_ret (dx_callTy call_tuple_of pv_tuple (by exact rfl) T.b_tuple (by exact rfl) (da_cons (do_val (dx_frz (dx_lc (own := [("room", 3)]) (T := (.nm 3)) (by exact rfl) sc.nd (di_of (by exact rfl) (dx_var (i := 1) (by exact rfl) (by exact Or.inl rfl) (by exact rfl))) (blkOk_by (N := ["house", "way", "names", "room"]) (sc := defScope s_renamed_way) (by decide +kernel)) (by decide) (all1 (by exact rfl)) (all1 (by exact rfl)) (fun O s H C cl fp => (dg_name sc.nd (i := 3) (by exact rfl) (by exact Or.inl rfl) (by exact rfl) (by exact rfl) (by first | exact Or.inl rfl | exact Or.inr rfl))) (fun O s H C cl fp => dts_nil) (fun O s H C cl fp => (dx_ix ix_seq pv_ix (do_val (dx_var (i := 2) (by exact rfl) (by first | exact Or.inr (Or.inl rfl) | exact Or.inr (Or.inr rfl)) (by exact rfl))) (do_val (dx_var (i := 3) (by exact rfl) (by exact Or.inl rfl) (by exact rfl))) (fun _ _ => rfl)))))) da_nil)))))))⟩
abbrev K__law_ask (P : Program) (w : World) (K : PySem.W.Frag) (mg : Str → Option Value) (base : Heap) (A : Nat → Addr) : Prop := Kn P w K mg base "_law_ask" 7 ["_law_what", "_law_house_here", "_law_more", "_law_names"] Γ__law_ask (cls A) none 4 .fz m__law_ask
theorem sc__law_ask : FnScope ["_law_what", "_law_house_here", "_law_more", "_law_names", "_law_e"] ["_law_what", "_law_house_here", "_law_more", "_law_names"] (defScope s__law_ask) := ⟨rfl, rfl, rfl, by decide +kernel, rfl, by decide +kernel, by decide +kernel⟩
theorem ok__law_ask (T : Txt K mg A CW) (k_renamed : K_renamed P w K mg base A) (k_renamed_watchers : K_renamed_watchers P w K mg base A) (k_renamed_way : K_renamed_way P w K mg base A) (kw : KW P w K mg base A) : K__law_ask P w K mg base A := by
  obtain ⟨fa_renamed_watchers, kf_renamed_watchers⟩ := id k_renamed_watchers
  obtain ⟨fa_renamed_way, kf_renamed_way⟩ := id k_renamed_way
  have fs_renamed_watchers_renamed_way := fun (ms : Nat → List D → Res D) (e : ms = (fun i => match i with | 0 => m_renamed_watchers | _ => m_renamed_way)) => (show FsOk P w K mg base (cls A) 6 3 .fz [fa_renamed_watchers, fa_renamed_way] ms from e ▸ (fs_cons kf_renamed_watchers (by decide) rfl rfl (fs_cons kf_renamed_way (by decide) rfl rfl fs_nil)))
  obtain ⟨fw, fdw, gw, kpw, bw, okw⟩ := kw
  obtain ⟨f, fd, Fn, g, b⟩ := T.f__law_ask
  have sc := sc__law_ask
  exact ⟨f, g, Fn.kp, fd, b, fn_ok (N := ["_law_what", "_law_house_here", "_law_more", "_law_names", "_law_e"]) (lev := 6) (n := 4) (k := 1) Fn sc rfl rfl fun cdv A outer s H E O vs hr =>
    (dss_one (ds_try (by exact rfl) (by exact rfl) sc.nd (i := 4) (by exact rfl) (by exact rfl) ⟨rfl, rfl, .inl T.g_WayError⟩ (takes_of (by exact rfl) (by exact rfl) (by exact rfl) (by exact rfl)) (by exact rfl) (fun c => T.xm c) (fun W pn xe tk2 po2 => (dss_cons (ds_if (dt_cmp (op_eqD (hu64 hr)) pv_eq (do_val (dx_var (i := 0) (by exact rfl) (by exact Or.inl rfl) (by exact rfl))) (do_val dx_int) (nomark _)) (dss_one (ds_ret (dx_kn none (Γc := Γ_renamed) k_renamed (by exact rfl) tk2 hr (by decide) (by exact rfl) (by exact rfl) (fun q e => nomatch e) (da_cons (do_val (dx_var (i := 1) (by exact rfl) (by exact Or.inl rfl) (by exact rfl))) (da_cons (do_val (dx_var (i := 3) (by exact rfl) (by exact Or.inl rfl) (by exact rfl))) da_nil))))) dss_nil) (dss_one (ds_ret (dx_callIx (lev := 6) (n := 3) (ms := (fun i => match i with | 0 => m_renamed_watchers | _ => m_renamed_way)) (pa_fs_cons (by exact rfl) kf_renamed_watchers.g (pa_fs_cons (by exact rfl) kf_renamed_way.g pa_fs_nil)) (Nat.le_trans (show _ ≤ 20 by simp) (by decide)) (fs_renamed_watchers_renamed_way _ (by exact rfl)) (by exact rfl) tk2 hr (by decide) (do_val (dx_bin op_sub pv_sub (do_val (dx_var (i := 0) (by exact rfl) (by exact Or.inl rfl) (by exact rfl))) (do_val dx_int))) (fun _ _ => rfl) (da_cons (do_val (dx_var (i := 1) (by exact rfl) (by exact Or.inl rfl) (by exact rfl))) (da_cons (do_val (dx_var (i := 2) (by exact rfl) (by exact Or.inl rfl) (by exact rfl))) (da_cons (do_val (dx_var (i := 3) (by exact rfl) (by exact Or.inl rfl) (by exact rfl))) da_nil)))))))) (su_which okw hr (by decide) (by exact rfl) gw kpw bw (by exact rfl) (by exact Or.inl rfl))))⟩
abbrev K_law (P : Program) (w : World) (K : PySem.W.Frag) (mg : Str → Option Value) (base : Heap) (A : Nat → Addr) : Prop := Kn P w K mg base "law" 8 ["_law_script"] Γ_law (cls A) none 1 .fz m_law
theorem sc_law : FnScope ["_law_script", "_law_town", "_law_house_here", "_law_bad", "_law_none", "_law_way", "_law_names", "_law_wrong", "_law_what", "_law_told"] ["_law_script"] (defScope s_law) := ⟨rfl, rfl, rfl, by decide +kernel, rfl, by decide +kernel, by decide +kernel⟩
theorem run_law {f : Addr} {fd : FuncData} (T : Txt K mg A CW) (k__law_house : K__law_house P w K mg base A) (k__law_odd_house : K__law_odd_house P w K mg base A) (k__law_odd_watchers : K__law_odd_watchers P w K mg base A) (k__law_pick : K__law_pick P w K mg base A) (k__law_ask : K__law_ask P w K mg base A) (Fn : Fun K "law" "law" s_law f fd) : FnOk P w K mg base (L2.CX P w) 8 f fd ["_law_script"] (spF (P, w, K) Γ_law (cls A) none 1 .fz m_law) := by
  have sc := sc_law
  exact fn_ok (N := ["_law_script", "_law_town", "_law_house_here", "_law_bad", "_law_none", "_law_way", "_law_names", "_law_wrong", "_law_what", "_law_told"]) (lev := 7) (n := 1) (k := 9) Fn sc rfl rfl fun cdv A outer s H E O vs hr =>
    (dss_cons (ds_set sc.nd (i := 1) (by exact rfl) (by exact Or.inl rfl) (by exact rfl) (by exact Or.inl rfl) (dx_lst da_nil)) (dss_cons (ds_set sc.nd (i := 2) (by exact rfl) (by exact Or.inl rfl) (by exact rfl) (by exact Or.inl rfl) (dx_kn (some (1, 1)) (Γc := Γ__law_house) k__law_house (by exact rfl) (takes_of (by exact rfl) (by exact rfl) (by exact rfl) (by exact rfl)) hr (by decide) (by exact rfl) (by exact rfl) (fun q e => by cases e; rfl) (da_cons (do_val (dx_var (i := 0) (by exact rfl) (by exact Or.inl rfl) (by exact rfl))) (da_cons (do_lend (i := 1) (by exact rfl) (by exact Or.inl rfl)) (da_cons (do_val dx_int) da_nil))))) (dss_cons (ds_asg (dg_tup (by exact rfl) (dgs_cons (dg_name sc.nd (i := 3) (by exact rfl) (by exact Or.inr rfl) (by exact rfl) (by exact rfl) (by first | exact Or.inl rfl | exact Or.inr rfl)) (dgs_cons (dg_name sc.nd (i := 4) (by exact rfl) (by exact Or.inr rfl) (by exact rfl) (by exact rfl) (by first | exact Or.inl rfl | exact Or.inr rfl)) dgs_nil)) (n := 2) (by exact rfl) (by exact rfl) (by exact rfl)) (dx_tup (da_cons (do_val (dx_kn (some (1, 1)) (Γc := Γ__law_odd_house) k__law_odd_house (by exact rfl) (takes_of (by exact rfl) (by exact rfl) (by exact rfl) (by exact rfl)) hr (by decide) (by exact rfl) (by exact rfl) (fun q e => by cases e; rfl) (da_cons (do_val (dx_var (i := 0) (by exact rfl) (by exact Or.inl rfl) (by exact rfl))) (da_cons (do_lend (i := 1) (by exact rfl) (by exact Or.inl rfl)) da_nil)))) (da_cons (do_val (dx_kn (some (1, 1)) (Γc := Γ__law_odd_watchers) k__law_odd_watchers (by exact rfl) (takes_of (by exact rfl) (by exact rfl) (by exact rfl) (by exact rfl)) hr (by decide) (by exact rfl) (by exact rfl) (fun q e => by cases e; rfl) (da_cons (do_val (dx_var (i := 0) (by exact rfl) (by exact Or.inl rfl) (by exact rfl))) (da_cons (do_lend (i := 1) (by exact rfl) (by exact Or.inl rfl)) da_nil)))) da_nil))) (by exact rfl) (by exact rfl) (by exact rfl)) (dss_cons (ds_set sc.nd (i := 5) (by exact rfl) (by exact Or.inl rfl) (by exact rfl) (by exact Or.inl rfl) (dx_kn (some (1, 1)) (Γc := Γ__law_pick) k__law_pick (by exact rfl) (takes_of (by exact rfl) (by exact rfl) (by exact rfl) (by exact rfl)) hr (by decide) (by exact rfl) (by exact rfl) (fun q e => by cases e; rfl) (da_cons (do_val (dx_var (i := 0) (by exact rfl) (by exact Or.inl rfl) (by exact rfl))) (da_cons (do_lend (i := 1) (by exact rfl) (by exact Or.inl rfl)) (da_cons (do_val (dx_frz (dx_lst (da_cons (do_val dx_non) (da_cons (do_val (dx_tup da_nil)) (da_cons (do_val (dx_frz (dx_lst (da_cons (do_val dx_int) da_nil)))) (da_cons (do_val (dx_tup (da_cons (do_val dx_int) da_nil))) (da_cons (do_val (dx_tup (da_cons (do_val dx_int) (da_cons (do_val dx_int) da_nil)))) (da_cons (do_val (dx_tup (da_cons (do_val dx_int) (da_cons (do_val (dx_un un_neg pv_neg (do_val dx_int))) da_nil)))) (da_cons (do_val (dx_tup (da_cons (do_val dx_int) (da_cons (do_val dx_bl) da_nil)))) (da_cons (do_val (dx_bin op_mulA pv_mul (do_val (dx_tup (da_cons (do_val dx_int) da_nil))) (do_val dx_int))) (da_cons (do_val (dx_str (z := "0"))) da_nil)))))))))))) da_nil))))) (dss_cons (ds_set sc.nd (i := 6) (by exact rfl) (by exact Or.inl rfl) (by exact rfl) (by exact Or.inl rfl) (dx_tupRg (by exact rfl) (by exact rfl) T.b_tuple (by exact rfl) T.b_range (dx_ix ix_seq pv_ix (do_val (dx_var (i := 2) (by exact rfl) (by exact Or.inl rfl) (by exact rfl))) (do_val dx_int) (fun _ _ => rfl)))) (dss_cons (ds_set sc.nd (i := 7) (by exact rfl) (by exact Or.inr rfl) (by exact rfl) (by exact Or.inl rfl) (dx_frz (dx_lst (da_cons (do_val dx_non) (da_cons (do_val (dx_sl sl_all pv_sl (do_val (dx_var (i := 6) (by exact rfl) (by exact Or.inl rfl) (by exact rfl))) (dp_some dx_int) dp_none)) (da_cons (do_val (dx_bin op_addA pv_add (do_val (dx_var (i := 6) (by exact rfl) (by exact Or.inl rfl) (by exact rfl))) (do_val (dx_tup (da_cons (do_val dx_int) da_nil))))) (da_cons (do_val (dx_frz (dx_callTy call_list_of pv_list (by exact rfl) T.b_list (by exact rfl) (da_cons (do_val (dx_var (i := 6) (by exact rfl) (by exact Or.inl rfl) (by exact rfl))) da_nil)))) (da_cons (do_val (dx_revT (by exact rfl) (dx_var (i := 6) (by exact rfl) (by exact Or.inl rfl) (by exact rfl)))) da_nil)))))))) (dss_cons (ds_set sc.nd (i := 7) (by exact rfl) (by exact Or.inr rfl) (by exact rfl) (by exact Or.inl rfl) (dx_kn (some (1, 1)) (Γc := Γ__law_pick) k__law_pick (by exact rfl) (takes_of (by exact rfl) (by exact rfl) (by exact rfl) (by exact rfl)) hr (by decide) (by exact rfl) (by exact rfl) (fun q e => by cases e; rfl) (da_cons (do_val (dx_var (i := 0) (by exact rfl) (by exact Or.inl rfl) (by exact rfl))) (da_cons (do_lend (i := 1) (by exact rfl) (by exact Or.inl rfl)) (da_cons (do_val (dx_bin op_addA pv_add (do_val (dx_var (i := 7) (by exact rfl) (by exact Or.inr (Or.inl rfl)) (by exact rfl))) (do_val (dx_frz (dx_lst (da_cons (do_val (dx_bin op_addA pv_add (do_val (dx_sl sl_all pv_sl (do_val (dx_var (i := 6) (by exact rfl) (by exact Or.inl rfl) (by exact rfl))) dp_none (dp_some (dx_un un_neg pv_neg (do_val dx_int))))) (do_val (dx_tup (da_cons (do_val (dx_ix ix_seq pv_ix (do_val (dx_var (i := 2) (by exact rfl) (by exact Or.inl rfl) (by exact rfl))) (do_val dx_int) (fun _ _ => rfl))) da_nil))))) (da_cons (do_val (dx_bin op_addA pv_add (do_val (dx_sl sl_all pv_sl (do_val (dx_var (i := 6) (by exact rfl) (by exact Or.inl rfl) (by exact rfl))) dp_none (dp_some (dx_un un_neg pv_neg (do_val dx_int))))) (do_val (dx_tup (da_cons (do_val dx_non) da_nil))))) da_nil))))))) da_nil))))) (dss_cons (ds_if (dt_cmp (op_neD (hu64 hr)) pv_ne (do_val (dx_frz (dx_lc (own := [("_law_what", 8)]) (T := (.nm 8)) (by exact rfl) sc.nd (di_range1 (by exact rfl) T.b_range dx_int) (blkOk_by (N := ["_law_script", "_law_town", "_law_house_here", "_law_bad", "_law_none", "_law_way", "_law_names", "_law_wrong", "_law_what", "_law_told"]) (sc := defScope s_law) (by decide +kernel)) (by decide) (all1 (by exact rfl)) (all1 (by exact rfl)) (fun O s H C cl fp => (dg_name sc.nd (i := 8) (by exact rfl) (by exact Or.inl rfl) (by exact rfl) (by exact rfl) (by first | exact Or.inl rfl | exact Or.inr rfl))) (fun O s H C cl fp => dts_nil) (fun O s H C cl fp => (dx_kn none (Γc := Γ__law_ask) k__law_ask (by exact rfl) takes0 hr (by decide) (by exact rfl) (by exact rfl) (fun q e => nomatch e) (da_cons (do_val (dx_var (i := 8) (by exact rfl) (by exact Or.inl rfl) (by exact rfl))) (da_cons (do_val (dx_var (i := 3) (by exact rfl) (by first | exact Or.inr (Or.inl rfl) | exact Or.inr (Or.inr rfl)) (by exact rfl))) (da_cons (do_val (dx_var (i := 4) (by exact rfl) (by first | exact Or.inr (Or.inl rfl) | exact Or.inr (Or.inr rfl)) (by exact rfl))) (da_cons (do_val (dx_var (i := 7) (by exact rfl) (by first | exact Or.inr (Or.inl rfl) | exact Or.inr (Or.inr rfl)) (by exact rfl))) da_nil))))))))) (do_val (dx_bin op_mulA pv_mul (do_val (dx_frz (dx_lst (da_cons (do_val (dx_tup (da_cons (do_val (dx_str (z := "refused"))) (da_cons (do_val dx_int) da_nil)))) da_nil)))) (do_val dx_int))) (nomark _)) (dss_one (ds_ret dx_bl)) dss_nil) (dss_cons (ds_if (dt_w (dw_or (dt_cmp (op_neD (hu64 hr)) pv_ne (do_val (dx_kn none (Γc := Γ__law_ask) k__law_ask (by exact rfl) (takes_of (by exact rfl) (by exact rfl) (by exact rfl) (by exact rfl)) hr (by decide) (by exact rfl) (by exact rfl) (fun q e => nomatch e) (da_cons (do_val dx_int) (da_cons (do_val (dx_var (i := 2) (by exact rfl) (by exact Or.inl rfl) (by exact rfl))) (da_cons (do_val (dx_var (i := 4) (by exact rfl) (by exact Or.inr (Or.inl rfl)) (by exact rfl))) (da_cons (do_val (dx_var (i := 7) (by exact rfl) (by exact Or.inr (Or.inl rfl)) (by exact rfl))) da_nil)))))) (do_val (dx_tup (da_cons (do_val (dx_str (z := "refused"))) (da_cons (do_val dx_int) da_nil)))) (nomark _)) (dw_or1 (dt_cmp (op_neD (hu64 hr)) pv_ne (do_val (dx_kn none (Γc := Γ__law_ask) k__law_ask (by exact rfl) (takes_of (by exact rfl) (by exact rfl) (by exact rfl) (by exact rfl)) hr (by decide) (by exact rfl) (by exact rfl) (fun q e => nomatch e) (da_cons (do_val dx_int) (da_cons (do_val (dx_var (i := 2) (by exact rfl) (by exact Or.inl rfl) (by exact rfl))) (da_cons (do_val (dx_var (i := 5) (by exact rfl) (by exact Or.inl rfl) (by exact rfl))) (da_cons (do_val (dx_var (i := 7) (by exact rfl) (by exact Or.inr (Or.inl rfl)) (by exact rfl))) da_nil)))))) (do_val (dx_tup (da_cons (do_val (dx_str (z := "refused"))) (da_cons (do_val dx_int) da_nil)))) (nomark _))))) (dss_one (ds_ret dx_bl)) dss_nil) (dss_cons (ds_set sc.nd (i := 9) (by exact rfl) (by exact Or.inl rfl) (by exact rfl) (by exact Or.inl rfl) (dx_lst (da_cons (do_val (dx_kn none (Γc := Γ__law_ask) k__law_ask (by exact rfl) (takes_of (by exact rfl) (by exact rfl) (by exact rfl) (by exact rfl)) hr (by decide) (by exact rfl) (by exact rfl) (fun q e => nomatch e) (da_cons (do_val dx_int) (da_cons (do_val (dx_var (i := 2) (by exact rfl) (by exact Or.inl rfl) (by exact rfl))) (da_cons (do_val dx_non) (da_cons (do_val (dx_var (i := 7) (by exact rfl) (by exact Or.inr (Or.inl rfl)) (by exact rfl))) da_nil)))))) (da_cons (do_val (dx_kn none (Γc := Γ__law_ask) k__law_ask (by exact rfl) (takes_of (by exact rfl) (by exact rfl) (by exact rfl) (by exact rfl)) hr (by decide) (by exact rfl) (by exact rfl) (fun q e => nomatch e) (da_cons (do_val dx_int) (da_cons (do_val (dx_var (i := 2) (by exact rfl) (by exact Or.inl rfl) (by exact rfl))) (da_cons (do_val (dx_tup da_nil)) (da_cons (do_val (dx_var (i := 7) (by exact rfl) (by exact Or.inr (Or.inl rfl)) (by exact rfl))) da_nil)))))) da_nil)))) (dss_cons (ds_expr (dx_mut (j := 9) (by exact rfl) (by exact rfl) (by exact Or.inl rfl) PySem.F.plainAttrs_list PySem.F.slot_list_append PySem.F.type_list_append mt_append pv_append (da_cons (do_val (dx_kn none (Γc := Γ__law_ask) k__law_ask (by exact rfl) (takes_of (by exact rfl) (by exact rfl) (by exact rfl) (by exact rfl)) hr (by decide) (by exact rfl) (by exact rfl) (fun q e => nomatch e) (da_cons (do_val dx_int) (da_cons (do_val (dx_var (i := 2) (by exact rfl) (by exact Or.inl rfl) (by exact rfl))) (da_cons (do_val (dx_tup (da_cons (do_val dx_int) da_nil))) (da_cons (do_val (dx_var (i := 7) (by exact rfl) (by exact Or.inr (Or.inl rfl)) (by exact rfl))) da_nil)))))) da_nil) (by exact rfl) (by exact rfl) (by exact rfl) (by exact rfl) (by exact rfl))) (dss_cons (ds_if (dt_cmp (op_neD (hu64 hr)) pv_ne (do_slot (i := 9) (by exact rfl) (by exact Or.inl rfl) (by exact rfl)) (do_val (dx_bin op_mulA pv_mul (do_val (dx_frz (dx_lst (da_cons (do_val (dx_tup (da_cons (do_val (dx_str (z := "refused"))) (da_cons (do_val dx_int) da_nil)))) da_nil)))) (do_val dx_int))) (nomark _)) (dss_one (ds_ret dx_bl)) dss_nil) (dss_one (ds_ret (dx_and (dx_cmp (op_eqD (hu64 hr)) pv_eq (do_val (dx_kn none (Γc := Γ__law_ask) k__law_ask (by exact rfl) (takes_of (by exact rfl) (by exact rfl) (by exact rfl) (by exact rfl)) hr (by decide) (by exact rfl) (by exact rfl) (fun q e => nomatch e) (da_cons (do_val dx_int) (da_cons (do_val (dx_var (i := 2) (by exact rfl) (by exact Or.inl rfl) (by exact rfl))) (da_cons (do_val dx_non) (da_cons (do_val (dx_var (i := 6) (by exact rfl) (by exact Or.inl rfl) (by exact rfl))) da_nil)))))) (do_val (dx_var (i := 2) (by exact rfl) (by exact Or.inl rfl) (by exact rfl))) (nomark _)) (dx_one (dx_cmp (op_eqD (hu64 hr)) pv_eq (do_val (dx_kn none (Γc := Γ__law_ask) k__law_ask (by exact rfl) (takes_of (by exact rfl) (by exact rfl) (by exact rfl) (by exact rfl)) hr (by decide) (by exact rfl) (by exact rfl) (fun q e => nomatch e) (da_cons (do_val dx_int) (da_cons (do_val (dx_var (i := 2) (by exact rfl) (by exact Or.inl rfl) (by exact rfl))) (da_cons (do_val (dx_tup (da_cons (do_val dx_int) (da_cons (do_val dx_int) da_nil)))) (da_cons (do_val (dx_var (i := 6) (by exact rfl) (by exact Or.inl rfl) (by exact rfl))) da_nil)))))) (do_val (dx_tup (da_cons (do_val dx_int) (da_cons (do_val dx_int) da_nil)))) (nomark _))))))))))))))))))
end
def adr (A0 A1 A2 A3 A4 A5 A6 A7 A8 A9 A10 : Addr) : Nat → Addr := fun j => match j with | 0 => A0 | 1 => A1 | 2 => A2 | 3 => A3 | 4 => A4 | 5 => A5 | 6 => A6 | 7 => A7 | 8 => A8 | 9 => A9 | _ => A10
end U

set_option Elab.async false
set_option linter.all false
set_option maxRecDepth 100000
set_option maxHeartbeats 4000000
namespace U
open PySem PySem.Spec PyProof.Rows L2 RZ PD
theorem all_mk {P : Program} {w : World} {K : PySem.W.Frag} {h : Heap} {mg : Str → Option Value} {fa fL CW A0 A1 A2 A3 A4 A5 A6 A7 A8 A9 A10 : Addr} {odL anL : Option Addr} {slL : Array (Option Value)} {ocL kVL dcL pmL cdL ctL : Value} (KX : K.In h) (G : h.Ns mainGlobals mg) (hfa : mg "law" = some (.ref fa))
    (aW : PySem.W.nsIn K mainGlobals "WayError" = some (some (.ref CW)))
    (a0 : PySem.W.nsIn K mainGlobals "NoHouse" = some (some (.ref A0)))
    (a1 : PySem.W.nsIn K mainGlobals "NoWatchers" = some (some (.ref A1)))
    (a2 : PySem.W.nsIn K mainGlobals "NoGoal" = some (some (.ref A2)))
    (a3 : PySem.W.nsIn K mainGlobals "NoWay" = some (some (.ref A3)))
    (a4 : PySem.W.nsIn K mainGlobals "NoCount" = some (some (.ref A4)))
    (a5 : PySem.W.nsIn K mainGlobals "NoPaper" = some (some (.ref A5)))
    (a6 : PySem.W.nsIn K mainGlobals "NoRoom" = some (some (.ref A6)))
    (a7 : PySem.W.nsIn K mainGlobals "Never" = some (some (.ref A7)))
    (a8 : PySem.W.nsIn K mainGlobals "NoText" = some (some (.ref A8)))
    (a9 : PySem.W.nsIn K mainGlobals "Nothing" = some (some (.ref A9)))
    (a10 : PySem.W.nsIn K mainGlobals "NoNames" = some (some (.ref A10)))
    (cW : ClsF K CW)
    (sW : PySem.W.subIn K (.ref CW) (.type "BaseException") = some true)
    (c0 : ClsF K A0)
    (c1 : ClsF K A1)
    (c2 : ClsF K A2)
    (c3 : ClsF K A3)
    (c4 : ClsF K A4)
    (c5 : ClsF K A5)
    (c6 : ClsF K A6)
    (c7 : ClsF K A7)
    (c8 : ClsF K A8)
    (c9 : ClsF K A9)
    (c10 : ClsF K A10)
    (r0 : RaiF K A0 CW)
    (r10 : RaiF K A10 CW)
    (r1 : RaiF K A1 CW)
    (r3 : RaiF K A3 CW)
    (s0 : PySem.W.subIn K (.ref A0) (.ref A0) = some true ∧ PySem.W.subIn K (.ref A0) (.ref A1) = some false ∧ PySem.W.subIn K (.ref A0) (.ref A2) = some false ∧ PySem.W.subIn K (.ref A0) (.ref A3) = some false ∧ PySem.W.subIn K (.ref A0) (.ref A4) = some false ∧ PySem.W.subIn K (.ref A0) (.ref A5) = some false ∧ PySem.W.subIn K (.ref A0) (.ref A6) = some false ∧ PySem.W.subIn K (.ref A0) (.ref A7) = some false ∧ PySem.W.subIn K (.ref A0) (.ref A8) = some false ∧ PySem.W.subIn K (.ref A0) (.ref A9) = some false ∧ PySem.W.subIn K (.ref A0) (.ref A10) = some false)
    (s10 : PySem.W.subIn K (.ref A10) (.ref A0) = some false ∧ PySem.W.subIn K (.ref A10) (.ref A1) = some false ∧ PySem.W.subIn K (.ref A10) (.ref A2) = some false ∧ PySem.W.subIn K (.ref A10) (.ref A3) = some false ∧ PySem.W.subIn K (.ref A10) (.ref A4) = some false ∧ PySem.W.subIn K (.ref A10) (.ref A5) = some false ∧ PySem.W.subIn K (.ref A10) (.ref A6) = some false ∧ PySem.W.subIn K (.ref A10) (.ref A7) = some false ∧ PySem.W.subIn K (.ref A10) (.ref A8) = some false ∧ PySem.W.subIn K (.ref A10) (.ref A9) = some false ∧ PySem.W.subIn K (.ref A10) (.ref A10) = some true)
    (s1 : PySem.W.subIn K (.ref A1) (.ref A0) = some false ∧ PySem.W.subIn K (.ref A1) (.ref A1) = some true ∧ PySem.W.subIn K (.ref A1) (.ref A2) = some false ∧ PySem.W.subIn K (.ref A1) (.ref A3) = some false ∧ PySem.W.subIn K (.ref A1) (.ref A4) = some false ∧ PySem.W.subIn K (.ref A1) (.ref A5) = some false ∧ PySem.W.subIn K (.ref A1) (.ref A6) = some false ∧ PySem.W.subIn K (.ref A1) (.ref A7) = some false ∧ PySem.W.subIn K (.ref A1) (.ref A8) = some false ∧ PySem.W.subIn K (.ref A1) (.ref A9) = some false ∧ PySem.W.subIn K (.ref A1) (.ref A10) = some false)
    (s3 : PySem.W.subIn K (.ref A3) (.ref A0) = some false ∧ PySem.W.subIn K (.ref A3) (.ref A1) = some false ∧ PySem.W.subIn K (.ref A3) (.ref A2) = some false ∧ PySem.W.subIn K (.ref A3) (.ref A3) = some true ∧ PySem.W.subIn K (.ref A3) (.ref A4) = some false ∧ PySem.W.subIn K (.ref A3) (.ref A5) = some false ∧ PySem.W.subIn K (.ref A3) (.ref A6) = some false ∧ PySem.W.subIn K (.ref A3) (.ref A7) = some false ∧ PySem.W.subIn K (.ref A3) (.ref A8) = some false ∧ PySem.W.subIn K (.ref A3) (.ref A9) = some false ∧ PySem.W.subIn K (.ref A3) (.ref A10) = some false)
    (hn : PySem.W.specialIn K (.builtin "object.__class__") "__get__" = some (some (.builtin "getset_descriptor.__get__")))
    (ht : PySem.W.takesIn K (.builtin "object.__class__") = some true)
    (b_ValueError : PySem.W.nsIn K mainGlobals "ValueError" = some none)
    (b_all : PySem.W.nsIn K mainGlobals "all" = some none)
    (b_bool : PySem.W.nsIn K mainGlobals "bool" = some none)
    (b_int : PySem.W.nsIn K mainGlobals "int" = some none)
    (b_isinstance : PySem.W.nsIn K mainGlobals "isinstance" = some none)
    (b_len : PySem.W.nsIn K mainGlobals "len" = some none)
    (b_list : PySem.W.nsIn K mainGlobals "list" = some none)
    (b_range : PySem.W.nsIn K mainGlobals "range" = some none)
    (b_sorted : PySem.W.nsIn K mainGlobals "sorted" = some none)
    (b_str : PySem.W.nsIn K mainGlobals "str" = some none)
    (b_tuple : PySem.W.nsIn K mainGlobals "tuple" = some none)
    (b_zip : PySem.W.nsIn K mainGlobals "zip" = some none)
    (t_BEATS : ∃ tk, PySem.W.nsIn K mainGlobals "BEATS" = some (some (.int 6 tk)))
    (t_DOORS : ∃ tk, PySem.W.nsIn K mainGlobals "DOORS" = some (some (.int 20 tk)))
    (t_LONG : ∃ tk, PySem.W.nsIn K mainGlobals "LONG" = some (some (.int 40 tk)))
    (t_ROOMS : ∃ tk, PySem.W.nsIn K mainGlobals "ROOMS" = some (some (.int 10 tk)))
    (t_WATCHERS : ∃ tk, PySem.W.nsIn K mainGlobals "WATCHERS" = some (some (.int 12 tk)))
    (f__law_cell_at : FnT K mg "_law_cell_at" s__law_cell_at ["_law_script", "_law_k"])
    (f__law_mixed : FnT K mg "_law_mixed" s__law_mixed ["_law_script", "_law_k", "_law_many"])
    (f__law_draw : FnT K mg "_law_draw" s__law_draw ["_law_script", "_law_town", "_law_many"])
    (f__law_house : FnT K mg "_law_house" s__law_house ["_law_script", "_law_town", "_law_most"])
    (f__law_pick : FnT K mg "_law_pick" s__law_pick ["_law_script", "_law_town", "_law_some"])
    (f__law_odd_house : FnT K mg "_law_odd_house" s__law_odd_house ["_law_script", "_law_town"])
    (f__law_odd_watchers : FnT K mg "_law_odd_watchers" s__law_odd_watchers ["_law_script", "_law_town"])
    (f_is_whole : FnT K mg "is_whole" s_is_whole ["thing", "low", "most"])
    (f_is_rising : FnT K mg "is_rising" s_is_rising ["thing"])
    (f_is_door : FnT K mg "is_door" s_is_door ["rooms", "thing"])
    (f_is_house : FnT K mg "is_house" s_is_house ["thing"])
    (f_need_house : FnT K mg "need_house" s_need_house ["thing"])
    (f_need_names : FnT K mg "need_names" s_need_names ["house", "names"])
    (f_called : FnT K mg "called" s_called ["thing", "names"])
    (f_renamed : FnT K mg "renamed" s_renamed ["house", "names"])
    (f_all_spots : FnT K mg "all_spots" s_all_spots ["house"])
    (f_is_spot : FnT K mg "is_spot" s_is_spot ["house", "thing"])
    (f_is_watcher : FnT K mg "is_watcher" s_is_watcher ["house", "thing"])
    (f_are_watching : FnT K mg "are_watching" s_are_watching ["house", "thing"])
    (f_need_watchers : FnT K mg "need_watchers" s_need_watchers ["house", "thing"])
    (f_renamed_watchers : FnT K mg "renamed_watchers" s_renamed_watchers ["house", "watchers", "names"])
    (f_beside : FnT K mg "beside" s_beside ["house", "room"])
    (f_is_way : FnT K mg "is_way" s_is_way ["house", "thing"])
    (f_renamed_way : FnT K mg "renamed_way" s_renamed_way ["house", "way", "names"])
    (f__law_ask : FnT K mg "_law_ask" s__law_ask ["_law_what", "_law_house_here", "_law_more", "_law_names"])
    (f__law_which : FnT K mg "_law_which" s__law_which ["_law_e"])
    (aL : PySem.W.nsIn K mainGlobals "law" = some (some (.ref fL))) (lL : K.lookup fL = some ⟨ocL, odL, .func (PySem.W.fnOf "law" "law" (defArgs s_law) (defBody s_law) (defScope s_law) .none kVL dcL pmL anL cdL ctL), slL⟩) (cL : PySem.W.codeIn K cdL "law" = true) (kL : PySem.W.keepIn K (.ref fL) = true) :
    ∃ fd : FuncData, (∀ (s : Shared) (v : Value), BindsTo s fd ⟨[v], []⟩ [("_law_script", v)]) ∧ ∀ base : Heap, K.In base → base.Ns mainGlobals mg → FnOk P w K mg base (L2.CX P w) 8 fa fd ["_law_script"] (spL (P, w, K)) := by
  have e := hfa.symm.trans (PySem.W.mg_of KX G aL)
  cases e
  have kt0 : ∀ i, i < 11 → PySem.W.kitOne K (.ref A0) (.ref (adr A0 A1 A2 A3 A4 A5 A6 A7 A8 A9 A10 i)) = some (i == 0) := fun i hi => match i, hi with
    | 0, _ => kit_of_sub c0 (s0.1) (s0.1)
    | 1, _ => kit_of_sub c1 (s0.2.1) (s0.1)
    | 2, _ => kit_of_sub c2 (s0.2.2.1) (s0.1)
    | 3, _ => kit_of_sub c3 (s0.2.2.2.1) (s0.1)
    | 4, _ => kit_of_sub c4 (s0.2.2.2.2.1) (s0.1)
    | 5, _ => kit_of_sub c5 (s0.2.2.2.2.2.1) (s0.1)
    | 6, _ => kit_of_sub c6 (s0.2.2.2.2.2.2.1) (s0.1)
    | 7, _ => kit_of_sub c7 (s0.2.2.2.2.2.2.2.1) (s0.1)
    | 8, _ => kit_of_sub c8 (s0.2.2.2.2.2.2.2.2.1) (s0.1)
    | 9, _ => kit_of_sub c9 (s0.2.2.2.2.2.2.2.2.2.1) (s0.1)
    | 10, _ => kit_of_sub c10 (s0.2.2.2.2.2.2.2.2.2.2) (s0.1)
    | n + 11, hn => absurd hn (by omega)
  have kt10 : ∀ i, i < 11 → PySem.W.kitOne K (.ref A10) (.ref (adr A0 A1 A2 A3 A4 A5 A6 A7 A8 A9 A10 i)) = some (i == 10) := fun i hi => match i, hi with
    | 0, _ => kit_of_sub c0 (s10.1) (s10.2.2.2.2.2.2.2.2.2.2)
    | 1, _ => kit_of_sub c1 (s10.2.1) (s10.2.2.2.2.2.2.2.2.2.2)
    | 2, _ => kit_of_sub c2 (s10.2.2.1) (s10.2.2.2.2.2.2.2.2.2.2)
    | 3, _ => kit_of_sub c3 (s10.2.2.2.1) (s10.2.2.2.2.2.2.2.2.2.2)
    | 4, _ => kit_of_sub c4 (s10.2.2.2.2.1) (s10.2.2.2.2.2.2.2.2.2.2)
    | 5, _ => kit_of_sub c5 (s10.2.2.2.2.2.1) (s10.2.2.2.2.2.2.2.2.2.2)
    | 6, _ => kit_of_sub c6 (s10.2.2.2.2.2.2.1) (s10.2.2.2.2.2.2.2.2.2.2)
    | 7, _ => kit_of_sub c7 (s10.2.2.2.2.2.2.2.1) (s10.2.2.2.2.2.2.2.2.2.2)
    | 8, _ => kit_of_sub c8 (s10.2.2.2.2.2.2.2.2.1) (s10.2.2.2.2.2.2.2.2.2.2)
    | 9, _ => kit_of_sub c9 (s10.2.2.2.2.2.2.2.2.2.1) (s10.2.2.2.2.2.2.2.2.2.2)
    | 10, _ => kit_of_sub c10 (s10.2.2.2.2.2.2.2.2.2.2) (s10.2.2.2.2.2.2.2.2.2.2)
    | n + 11, hn => absurd hn (by omega)
  have kt1 : ∀ i, i < 11 → PySem.W.kitOne K (.ref A1) (.ref (adr A0 A1 A2 A3 A4 A5 A6 A7 A8 A9 A10 i)) = some (i == 1) := fun i hi => match i, hi with
    | 0, _ => kit_of_sub c0 (s1.1) (s1.2.1)
    | 1, _ => kit_of_sub c1 (s1.2.1) (s1.2.1)
    | 2, _ => kit_of_sub c2 (s1.2.2.1) (s1.2.1)
    | 3, _ => kit_of_sub c3 (s1.2.2.2.1) (s1.2.1)
    | 4, _ => kit_of_sub c4 (s1.2.2.2.2.1) (s1.2.1)
    | 5, _ => kit_of_sub c5 (s1.2.2.2.2.2.1) (s1.2.1)
    | 6, _ => kit_of_sub c6 (s1.2.2.2.2.2.2.1) (s1.2.1)
    | 7, _ => kit_of_sub c7 (s1.2.2.2.2.2.2.2.1) (s1.2.1)
    | 8, _ => kit_of_sub c8 (s1.2.2.2.2.2.2.2.2.1) (s1.2.1)
    | 9, _ => kit_of_sub c9 (s1.2.2.2.2.2.2.2.2.2.1) (s1.2.1)
    | 10, _ => kit_of_sub c10 (s1.2.2.2.2.2.2.2.2.2.2) (s1.2.1)
    | n + 11, hn => absurd hn (by omega)
  have kt3 : ∀ i, i < 11 → PySem.W.kitOne K (.ref A3) (.ref (adr A0 A1 A2 A3 A4 A5 A6 A7 A8 A9 A10 i)) = some (i == 3) := fun i hi => match i, hi with
    | 0, _ => kit_of_sub c0 (s3.1) (s3.2.2.2.1)
    | 1, _ => kit_of_sub c1 (s3.2.1) (s3.2.2.2.1)
    | 2, _ => kit_of_sub c2 (s3.2.2.1) (s3.2.2.2.1)
    | 3, _ => kit_of_sub c3 (s3.2.2.2.1) (s3.2.2.2.1)
    | 4, _ => kit_of_sub c4 (s3.2.2.2.2.1) (s3.2.2.2.1)
    | 5, _ => kit_of_sub c5 (s3.2.2.2.2.2.1) (s3.2.2.2.1)
    | 6, _ => kit_of_sub c6 (s3.2.2.2.2.2.2.1) (s3.2.2.2.1)
    | 7, _ => kit_of_sub c7 (s3.2.2.2.2.2.2.2.1) (s3.2.2.2.1)
    | 8, _ => kit_of_sub c8 (s3.2.2.2.2.2.2.2.2.1) (s3.2.2.2.1)
    | 9, _ => kit_of_sub c9 (s3.2.2.2.2.2.2.2.2.2.1) (s3.2.2.2.1)
    | 10, _ => kit_of_sub c10 (s3.2.2.2.2.2.2.2.2.2.2) (s3.2.2.2.1)
    | n + 11, hn => absurd hn (by omega)
  have T : Txt K mg (adr A0 A1 A2 A3 A4 A5 A6 A7 A8 A9 A10) CW := {
    b_ValueError := PySem.W.mg_none_of KX G b_ValueError,
    b_all := PySem.W.mg_none_of KX G b_all,
    b_bool := PySem.W.mg_none_of KX G b_bool,
    b_int := PySem.W.mg_none_of KX G b_int,
    b_isinstance := PySem.W.mg_none_of KX G b_isinstance,
    b_len := PySem.W.mg_none_of KX G b_len,
    b_list := PySem.W.mg_none_of KX G b_list,
    b_range := PySem.W.mg_none_of KX G b_range,
    b_sorted := PySem.W.mg_none_of KX G b_sorted,
    b_str := PySem.W.mg_none_of KX G b_str,
    b_tuple := PySem.W.mg_none_of KX G b_tuple,
    b_zip := PySem.W.mg_none_of KX G b_zip,
    c_BEATS := (let ⟨_, e⟩ := t_BEATS; ⟨_, PySem.W.mg_of KX G e⟩),
    c_DOORS := (let ⟨_, e⟩ := t_DOORS; ⟨_, PySem.W.mg_of KX G e⟩),
    c_LONG := (let ⟨_, e⟩ := t_LONG; ⟨_, PySem.W.mg_of KX G e⟩),
    c_ROOMS := (let ⟨_, e⟩ := t_ROOMS; ⟨_, PySem.W.mg_of KX G e⟩),
    c_WATCHERS := (let ⟨_, e⟩ := t_WATCHERS; ⟨_, PySem.W.mg_of KX G e⟩),
    f__law_cell_at := f__law_cell_at,
    f__law_mixed := f__law_mixed,
    f__law_draw := f__law_draw,
    f__law_house := f__law_house,
    f__law_pick := f__law_pick,
    f__law_odd_house := f__law_odd_house,
    f__law_odd_watchers := f__law_odd_watchers,
    f_is_whole := f_is_whole,
    f_is_rising := f_is_rising,
    f_is_door := f_is_door,
    f_is_house := f_is_house,
    f_need_house := f_need_house,
    f_need_names := f_need_names,
    f_called := f_called,
    f_renamed := f_renamed,
    f_all_spots := f_all_spots,
    f_is_spot := f_is_spot,
    f_is_watcher := f_is_watcher,
    f_are_watching := f_are_watching,
    f_need_watchers := f_need_watchers,
    f_renamed_watchers := f_renamed_watchers,
    f_beside := f_beside,
    f_is_way := f_is_way,
    f_renamed_way := f_renamed_way,
    f__law_ask := f__law_ask,
    f__law_which := f__law_which,
    g_WayError := PySem.W.mg_of KX G aW,
    g_NoHouse := PySem.W.mg_of KX G a0,
    g_NoWatchers := PySem.W.mg_of KX G a1,
    g_NoGoal := PySem.W.mg_of KX G a2,
    g_NoWay := PySem.W.mg_of KX G a3,
    g_NoCount := PySem.W.mg_of KX G a4,
    g_NoPaper := PySem.W.mg_of KX G a5,
    g_NoRoom := PySem.W.mg_of KX G a6,
    g_Never := PySem.W.mg_of KX G a7,
    g_NoText := PySem.W.mg_of KX G a8,
    g_Nothing := PySem.W.mg_of KX G a9,
    g_NoNames := PySem.W.mg_of KX G a10,
    xc := fun k => by
      rcases rk_cases k with e | e | e | e <;> rw [e]
      · exact r0.xc
      · exact r10.xc
      · exact r1.xc
      · exact r3.xc,
    kc := fun k => by
      rcases rk_cases k with e | e | e | e <;> rw [e]
      · exact r0.kc
      · exact r10.kc
      · exact r1.kc
      · exact r3.kc,
    sb := fun k => by
      rcases rk_cases k with e | e | e | e <;> rw [e]
      · exact r0.sb
      · exact r10.sb
      · exact r1.sb
      · exact r3.sb,
    xm := fun k => by
      rcases rk_cases k with e | e | e | e <;> rw [e]
      · exact r0.xm cW sW
      · exact r10.xm cW sW
      · exact r1.xm cW sW
      · exact r3.xm cW sW,
    ec := fun k => by
      rcases rk_cases k with e | e | e | e <;> rw [e]
      · exact r0.ec c0 hn ht
      · exact r10.ec c10 hn ht
      · exact r1.ec c1 hn ht
      · exact r3.ec c3 hn ht,
    kv := fun k => by
      rcases rk_cases k with e | e | e | e <;> rw [e]
      · exact r0.kv
      · exact r10.kv
      · exact r1.kv
      · exact r3.kv,
    ty := fun k => by
      rcases rk_cases k with e | e | e | e <;> rw [e]
      · exact c0.ty
      · exact c10.ty
      · exact c1.ty
      · exact c3.ty,
    kt := fun k j hj => by
      rcases rk_cases k with e | e | e | e <;> rw [e]
      · exact kt0 j hj
      · exact kt10 j hj
      · exact kt1 j hj
      · exact kt3 j hj }
  refine ⟨PySem.W.fnOf "law" "law" (defArgs s_law) (defBody s_law) (defScope s_law) .none kVL dcL pmL anL cdL ctL, fun s v => .of_eq rfl, fun base _ _ => ?_⟩
  have kw := ok_w (P := P) (w := w) (base := base) T
  have k__law_cell_at := ok__law_cell_at (P := P) (w := w) (base := base) T
  have k__law_mixed := ok__law_mixed (P := P) (w := w) (base := base) T k__law_cell_at
  have k__law_draw := ok__law_draw (P := P) (w := w) (base := base) T k__law_mixed
  have k__law_house := ok__law_house (P := P) (w := w) (base := base) T k__law_draw
  have k__law_pick := ok__law_pick (P := P) (w := w) (base := base) T k__law_draw
  have k__law_odd_house := ok__law_odd_house (P := P) (w := w) (base := base) T k__law_pick
  have k__law_odd_watchers := ok__law_odd_watchers (P := P) (w := w) (base := base) T k__law_pick
  have k_is_whole := ok_is_whole (P := P) (w := w) (base := base) T
  have k_is_rising := ok_is_rising (P := P) (w := w) (base := base) T
  have k_is_door := ok_is_door (P := P) (w := w) (base := base) T k_is_whole
  have k_is_house := ok_is_house (P := P) (w := w) (base := base) T k_is_whole k_is_rising k_is_door
  have k_need_house := ok_need_house (P := P) (w := w) (base := base) T k_is_house
  have k_need_names := ok_need_names (P := P) (w := w) (base := base) T k_is_whole
  have k_called := ok_called (P := P) (w := w) (base := base) T
  have k_renamed := ok_renamed (P := P) (w := w) (base := base) T k_need_house k_need_names k_called
  have k_all_spots := ok_all_spots (P := P) (w := w) (base := base) T
  have k_is_spot := ok_is_spot (P := P) (w := w) (base := base) T k_is_whole k_all_spots
  have k_is_watcher := ok_is_watcher (P := P) (w := w) (base := base) T k_is_spot
  have k_are_watching := ok_are_watching (P := P) (w := w) (base := base) T k_is_watcher k_is_rising
  have k_need_watchers := ok_need_watchers (P := P) (w := w) (base := base) T k_need_house k_are_watching
  have k_renamed_watchers := ok_renamed_watchers (P := P) (w := w) (base := base) T k_need_watchers k_need_names k_called
  have k_beside := ok_beside (P := P) (w := w) (base := base) T
  have k_is_way := ok_is_way (P := P) (w := w) (base := base) T k_is_whole k_beside
  have k_renamed_way := ok_renamed_way (P := P) (w := w) (base := base) T k_need_house k_is_way k_need_names
  have k__law_ask := ok__law_ask (P := P) (w := w) (base := base) T k_renamed k_renamed_watchers k_renamed_way kw
  exact (run_law T k__law_house k__law_odd_house k__law_odd_watchers k__law_pick k__law_ask (fun_mk (st := s_law) lL cL kL)).imp (spL_F rfl law_ok)
end U
open PySem PySem.W PyProof.Rows in
set_option maxRecDepth 100000 in
set_option maxHeartbeats 0 in
theorem PySem.Challenge.cw_unseenways_k28_names_refused_holds : PySem.Challenge.rw_unseenways_k28_names_refused.Holds := by
  w_on; o_law; k_head; (case hw => w_witness2)
  k_fill
  refine PD.walk_PD (l := PySem.Challenge.rw_unseenways_k28_names_refused) (lev := 8) (x := "_law_script") rfl (by decide) rfl ⟨rfl, by decide, by decide⟩ (fun w h Y => PySem.W.kIn_of Y) ?F
  case F =>
    intro w mg fa h KX G hmg
    refine' U.all_mk KX G hmg ?aW ?a0 ?a1 ?a2 ?a3 ?a4 ?a5 ?a6 ?a7 ?a8 ?a9 ?a10 ?cW ?sW ?c0 ?c1 ?c2 ?c3 ?c4 ?c5 ?c6 ?c7 ?c8 ?c9 ?c10 ?r0 ?r10 ?r1 ?r3 ?s0 ?s10 ?s1 ?s3 ?hn ?ht ?b_ValueError ?b_all ?b_bool ?b_int ?b_isinstance ?b_len ?b_list ?b_range ?b_sorted ?b_str ?b_tuple ?b_zip ?t_BEATS ?t_DOORS ?t_LONG ?t_ROOMS ?t_WATCHERS ?f__law_cell_at ?f__law_mixed ?f__law_draw ?f__law_house ?f__law_pick ?f__law_odd_house ?f__law_odd_watchers ?f_is_whole ?f_is_rising ?f_is_door ?f_is_house ?f_need_house ?f_need_names ?f_called ?f_renamed ?f_all_spots ?f_is_spot ?f_is_watcher ?f_are_watching ?f_need_watchers ?f_renamed_watchers ?f_beside ?f_is_way ?f_renamed_way ?f__law_ask ?f__law_which ?aL ?lL ?cL ?kL
    (case aW => k_is)
    (case a0 => k_is)
    (case a1 => k_is)
    (case a2 => k_is)
    (case a3 => k_is)
    (case a4 => k_is)
    (case a5 => k_is)
    (case a6 => k_is)
    (case a7 => k_is)
    (case a8 => k_is)
    (case a9 => k_is)
    (case a10 => k_is)
    (case cW => exact ⟨by k_is, by k_is⟩)
    (case sW => k_is)
    (case c0 => exact ⟨by k_is, by k_is⟩)
    (case c1 => exact ⟨by k_is, by k_is⟩)
    (case c2 => exact ⟨by k_is, by k_is⟩)
    (case c3 => exact ⟨by k_is, by k_is⟩)
    (case c4 => exact ⟨by k_is, by k_is⟩)
    (case c5 => exact ⟨by k_is, by k_is⟩)
    (case c6 => exact ⟨by k_is, by k_is⟩)
    (case c7 => exact ⟨by k_is, by k_is⟩)
    (case c8 => exact ⟨by k_is, by k_is⟩)
    (case c9 => exact ⟨by k_is, by k_is⟩)
    (case c10 => exact ⟨by k_is, by k_is⟩)
    (case r0 => exact ⟨by k_exc, by k_is, by k_is, by k_is, by k_is, by k_is, by k_is, by k_is, by k_is⟩)
    (case r10 => exact ⟨by k_exc, by k_is, by k_is, by k_is, by k_is, by k_is, by k_is, by k_is, by k_is⟩)
    (case r1 => exact ⟨by k_exc, by k_is, by k_is, by k_is, by k_is, by k_is, by k_is, by k_is, by k_is⟩)
    (case r3 => exact ⟨by k_exc, by k_is, by k_is, by k_is, by k_is, by k_is, by k_is, by k_is, by k_is⟩)
    (case s0 => exact ⟨by k_is, by k_is, by k_is, by k_is, by k_is, by k_is, by k_is, by k_is, by k_is, by k_is, by k_is⟩)
    (case s10 => exact ⟨by k_is, by k_is, by k_is, by k_is, by k_is, by k_is, by k_is, by k_is, by k_is, by k_is, by k_is⟩)
    (case s1 => exact ⟨by k_is, by k_is, by k_is, by k_is, by k_is, by k_is, by k_is, by k_is, by k_is, by k_is, by k_is⟩)
    (case s3 => exact ⟨by k_is, by k_is, by k_is, by k_is, by k_is, by k_is, by k_is, by k_is, by k_is, by k_is, by k_is⟩)
    (case hn => k_is)
    (case ht => k_is)
    (case b_ValueError => k_is)
    (case b_all => k_is)
    (case b_bool => k_is)
    (case b_int => k_is)
    (case b_isinstance => k_is)
    (case b_len => k_is)
    (case b_list => k_is)
    (case b_range => k_is)
    (case b_sorted => k_is)
    (case b_str => k_is)
    (case b_tuple => k_is)
    (case b_zip => k_is)
    (case t_BEATS => exact ⟨_, by k_is⟩)
    (case t_DOORS => exact ⟨_, by k_is⟩)
    (case t_LONG => exact ⟨_, by k_is⟩)
    (case t_ROOMS => exact ⟨_, by k_is⟩)
    (case t_WATCHERS => exact ⟨_, by k_is⟩)
    (case f__law_cell_at => exact PD.fnT_of KX G (by k_is) (by k_is) (by k_is) (by k_is) fun _ _ _ _ _ _ us hl => match us, hl with | [_, _], _ => rfl)
    (case f__law_mixed => exact PD.fnT_of KX G (by k_is) (by k_is) (by k_is) (by k_is) fun _ _ _ _ _ _ us hl => match us, hl with | [_, _, _], _ => rfl)
    (case f__law_draw => exact PD.fnT_of KX G (by k_is) (by k_is) (by k_is) (by k_is) fun _ _ _ _ _ _ us hl => match us, hl with | [_, _, _], _ => rfl)
    (case f__law_house => exact PD.fnT_of KX G (by k_is) (by k_is) (by k_is) (by k_is) fun _ _ _ _ _ _ us hl => match us, hl with | [_, _, _], _ => rfl)
    (case f__law_pick => exact PD.fnT_of KX G (by k_is) (by k_is) (by k_is) (by k_is) fun _ _ _ _ _ _ us hl => match us, hl with | [_, _, _], _ => rfl)
    (case f__law_odd_house => exact PD.fnT_of KX G (by k_is) (by k_is) (by k_is) (by k_is) fun _ _ _ _ _ _ us hl => match us, hl with | [_, _], _ => rfl)
    (case f__law_odd_watchers => exact PD.fnT_of KX G (by k_is) (by k_is) (by k_is) (by k_is) fun _ _ _ _ _ _ us hl => match us, hl with | [_, _], _ => rfl)
    (case f_is_whole => exact PD.fnT_of KX G (by k_is) (by k_is) (by k_is) (by k_is) fun _ _ _ _ _ _ us hl => match us, hl with | [_, _, _], _ => rfl)
    (case f_is_rising => exact PD.fnT_of KX G (by k_is) (by k_is) (by k_is) (by k_is) fun _ _ _ _ _ _ us hl => match us, hl with | [_], _ => rfl)
    (case f_is_door => exact PD.fnT_of KX G (by k_is) (by k_is) (by k_is) (by k_is) fun _ _ _ _ _ _ us hl => match us, hl with | [_, _], _ => rfl)
    (case f_is_house => exact PD.fnT_of KX G (by k_is) (by k_is) (by k_is) (by k_is) fun _ _ _ _ _ _ us hl => match us, hl with | [_], _ => rfl)
    (case f_need_house => exact PD.fnT_of KX G (by k_is) (by k_is) (by k_is) (by k_is) fun _ _ _ _ _ _ us hl => match us, hl with | [_], _ => rfl)
    (case f_need_names => exact PD.fnT_of KX G (by k_is) (by k_is) (by k_is) (by k_is) fun _ _ _ _ _ _ us hl => match us, hl with | [_, _], _ => rfl)
    (case f_called => exact PD.fnT_of KX G (by k_is) (by k_is) (by k_is) (by k_is) fun _ _ _ _ _ _ us hl => match us, hl with | [_, _], _ => rfl)
    (case f_renamed => exact PD.fnT_of KX G (by k_is) (by k_is) (by k_is) (by k_is) fun _ _ _ _ _ _ us hl => match us, hl with | [_, _], _ => rfl)
    (case f_all_spots => exact PD.fnT_of KX G (by k_is) (by k_is) (by k_is) (by k_is) fun _ _ _ _ _ _ us hl => match us, hl with | [_], _ => rfl)
    (case f_is_spot => exact PD.fnT_of KX G (by k_is) (by k_is) (by k_is) (by k_is) fun _ _ _ _ _ _ us hl => match us, hl with | [_, _], _ => rfl)
    (case f_is_watcher => exact PD.fnT_of KX G (by k_is) (by k_is) (by k_is) (by k_is) fun _ _ _ _ _ _ us hl => match us, hl with | [_, _], _ => rfl)
    (case f_are_watching => exact PD.fnT_of KX G (by k_is) (by k_is) (by k_is) (by k_is) fun _ _ _ _ _ _ us hl => match us, hl with | [_, _], _ => rfl)
    (case f_need_watchers => exact PD.fnT_of KX G (by k_is) (by k_is) (by k_is) (by k_is) fun _ _ _ _ _ _ us hl => match us, hl with | [_, _], _ => rfl)
    (case f_renamed_watchers => exact PD.fnT_of KX G (by k_is) (by k_is) (by k_is) (by k_is) fun _ _ _ _ _ _ us hl => match us, hl with | [_, _, _], _ => rfl)
    (case f_beside => exact PD.fnT_of KX G (by k_is) (by k_is) (by k_is) (by k_is) fun _ _ _ _ _ _ us hl => match us, hl with | [_, _], _ => rfl)
    (case f_is_way => exact PD.fnT_of KX G (by k_is) (by k_is) (by k_is) (by k_is) fun _ _ _ _ _ _ us hl => match us, hl with | [_, _], _ => rfl)
    (case f_renamed_way => exact PD.fnT_of KX G (by k_is) (by k_is) (by k_is) (by k_is) fun _ _ _ _ _ _ us hl => match us, hl with | [_, _, _], _ => rfl)
    (case f__law_ask => exact PD.fnT_of KX G (by k_is) (by k_is) (by k_is) (by k_is) fun _ _ _ _ _ _ us hl => match us, hl with | [_, _, _, _], _ => rfl)
    (case f__law_which => exact PD.fnT_of KX G (by k_is) (by k_is) (by k_is) (by k_is) fun _ _ _ _ _ _ us hl => match us, hl with | [_], _ => rfl)
    (case aL => k_is)
    (case lL => k_is)
    (case cL => k_is)
    (case kL => k_is)

