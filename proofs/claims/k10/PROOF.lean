import PyProof.Rows.All
import Wide.All
import OpenK.AllK
import Wide.FinOn
import HandS.ForMost
import HandS.ForExc
import HandS.Evl
import KE.KeyNested
import HandS.CallSlots
import HandS.Wide
import HandS.Steps
import HandS.Style
import HandS.NoneIn
import HandS.Deep
import HandS.TupSets
import KE.SortData
import HandS.Dict
import HandS.TupLen
import HandS.ExcIs
import HandS.ExcField
import HandS.ExcInit
import HandS.TryOnly
import HandS.Property
import HandS.EndBits
import HandS.DictTup
import PyProof.InstEq
import KE.KOpsOwn
import KE.KRevSl
import PySem.Challenge.RW_emptyfirst_k10_rows_of_steps
set_option Elab.async false
set_option linter.all false
set_option maxRecDepth 100000
set_option maxHeartbeats 4000000
set_option autoImplicit false
namespace VE
open PySem PySem.Spec PyProof.Rows L2
inductive D where
  | non
  | bl (b : Bool)
  | int (i : Int)
  | str (s : Str)
  | tup (ds : List D)
  | lst (ds : List D)
  | scr (ns : List Int)
  | dct (t : Nat) (kvs : List (D × D))
  | ins (c : Str) (fs : List (Str × D))
  | box (d : D)
abbrev Ex (H H' : Hp) : Prop := Evl.Ex H H'
theorem Ex.refl (H : Hp) : Ex H H := Evl.Ex.refl H
theorem Ex.new {H : Hp} {p : Addr} {o : HO} (h : H p = none) : Ex H (upd H p o) := Evl.Ex.new h
theorem xBack {H H' : Hp} {p : Addr} (e : Ex H H') (h : H' p = none) : H p = none := Evl.fresh_back e h
structure Wd where
  P : Program
  w : World
  K : PySem.W.Frag
  mg : Str → Option Value
abbrev wdOf (X : Cx) : Wd := ⟨X.prog, X.w, X.K, X.mg⟩
abbrev NK := NestedKey
mutual
def nkD : D → Option NK
  | .non => some .none
  | .int i => some (.num i)
  | .str x => some (.text x)
  | .tup ds => (nkDs ds).map .tup
  | _ => none
def nkDs : List D → Option (List NK)
  | [] => some []
  | d :: ds => (nkD d).bind fun k => (nkDs ds).map (k :: ·)
end
mutual
def NkAt (H : Hp) : NK → V → Prop
  | .none, v => v = .non
  | .num i, v => v = .int i
  | .text x, v => v = .str x
  | .tup ks, v => ∃ b xs, v = .ref b ∧ H b = some (.tup xs) ∧ NkAll H ks xs
def NkAll (H : Hp) : List NK → List V → Prop
  | [], xs => xs = []
  | k :: ks, xs => ∃ v r, xs = v :: r ∧ NkAt H k v ∧ NkAll H ks r
end
mutual
theorem NkAt.mono {H H' : Hp} (e : Ex H H') : ∀ (k : NK) (v : V), NkAt H k v → NkAt H' k v
  | .none, _, h => by simpa only [NkAt] using h
  | .num _, _, h => by simpa only [NkAt] using h
  | .text _, _, h => by simpa only [NkAt] using h
  | .tup ks, _, h => by
    simp only [NkAt] at h ⊢
    obtain ⟨b, xs, e1, h1, h2⟩ := h
    exact ⟨b, xs, e1, e _ _ h1, NkAll.mono e ks xs h2⟩
theorem NkAll.mono {H H' : Hp} (e : Ex H H') : ∀ (ks : List NK) (xs : List V), NkAll H ks xs → NkAll H' ks xs
  | [], _, h => by simpa only [NkAll] using h
  | k :: ks, _, h => by
    simp only [NkAll] at h ⊢
    obtain ⟨v, r, e1, h1, h2⟩ := h
    exact ⟨v, r, e1, NkAt.mono e k v h1, NkAll.mono e ks r h2⟩
end
def keyD : D → Option Key
  | .int i => some (.inl i)
  | .str x => some (.inr x)
  | _ => none
def keyT : D → Option (List Key)
  | .tup ds => ds.mapM keyD
  | _ => none
def dN (P : Program) (w : World) (a : Addr) (kvs : List (NK × Addr × V)) : HO := .ext fun h => kvs.length ≤ sizeLine ∧ (a == sysModules) = false ∧ ∃ ys : List (NK × Addr × Value), Paired (fun p q => p.1 = q.1 ∧ p.2.1 = q.2.1 ∧ RelV p.2.2 q.2.2) kvs ys ∧
  ∃ o es ep, h.get? a = some o ∧ o.ExactDict ∧ o.data = .dict es ep ∧ es.toList = ys.map (entryOfKey (nestedKind P w)) ∧ (ys.map (·.1)).Nodup
def DictAt (C : Wd) (H Hs : Hp) (a : Addr) : Nat → List D → List V → Prop
  | 0, ks, xs => ∃ kvs : List (Key × V), H a = some (.dK kvs) ∧ ks.map keyD = kvs.map (fun p => some p.1) ∧ xs = kvs.map (·.2)
  | 1, ks, xs => ∃ kvs : List (List Key × V), H a = some (.dT kvs) ∧ ks.map keyT = kvs.map (fun p => some p.1) ∧ xs = kvs.map (·.2)
  | 2, ks, xs => ∃ kvs : List (NK × Addr × V), H a = some (dN C.P C.w a kvs) ∧ ks.map nkD = kvs.map (fun p => some p.1) ∧ xs = kvs.map (·.2.2) ∧ ∀ q ∈ kvs, NkAt Hs q.1 (.ref q.2.1) ∧ q.1.depth ≤ 8
  | 3, ks, xs => ∃ u : V, H a = some (.xd [(("value" : Str), u)]) ∧ ks = [.str "value"] ∧ xs = [u]
  | _, _, _ => False
theorem DictAt.there {C : Wd} {H Hs : Hp} {a : Addr} {t : Nat} {ks : List D} {xs : List V} (h : DictAt C H Hs a t ks xs) : ∃ o, H a = some o := by
  unfold DictAt at h
  split at h
  · exact ⟨_, h.choose_spec.1⟩
  · exact ⟨_, h.choose_spec.1⟩
  · exact ⟨_, h.choose_spec.1⟩
  · exact ⟨_, h.choose_spec.1⟩
  · exact h.elim
theorem DictAt.mono {C : Wd} {H H' Hs Hs' : Hp} {a : Addr} {t : Nat} {ks : List D} {xs : List V} (h : DictAt C H Hs a t ks xs) (k : ∀ o, H a = some o → H' a = some o) (e : Ex Hs Hs') : DictAt C H' Hs' a t ks xs := by
  unfold DictAt at h ⊢
  split at h
  · obtain ⟨kvs, h1, h2⟩ := h; exact ⟨kvs, k _ h1, h2⟩
  · obtain ⟨kvs, h1, h2⟩ := h; exact ⟨kvs, k _ h1, h2⟩
  · obtain ⟨kvs, h1, h2, h3, h4⟩ := h; exact ⟨kvs, k _ h1, h2, h3, fun q hq => ⟨NkAt.mono e _ _ (h4 q hq).1, (h4 q hq).2⟩⟩
  · obtain ⟨u, h1, h2⟩ := h; exact ⟨u, k _ h1, h2⟩
  · exact h.elim
mutual
def Rp (C : Wd) (H : Hp) : D → V → Prop
  | .non, v => v = .non
  | .bl b, v => v = .bl b
  | .int i, v => v = .int i
  | .str s, v => v = .str s
  | .tup ds, v => ∃ a xs, v = .ref a ∧ H a = some (.tup xs) ∧ RpL C H ds xs
  | .lst ds, v => ∃ a xs, v = .ref a ∧ H a = some (.lst xs) ∧ RpL C H ds xs
  | .scr ns, v => ∃ a, v = .ref a ∧ SqL C.K H a (ns.map V.int)
  | .dct t kvs, v => ∃ a xs, v = .ref a ∧ DictAt C H H a t (kvs.map Prod.fst) xs ∧ RpV C H kvs xs
  | .box _, _ => False
  | .ins c fs, v => ∃ a Ca dx xs, v = .ref a ∧ C.mg c = some (.ref Ca) ∧ H a = some (.ins Ca dx xs) ∧ RpF C H fs xs
def RpL (C : Wd) (H : Hp) : List D → List V → Prop
  | [], xs => xs = []
  | d :: ds, xs => ∃ v r, xs = v :: r ∧ Rp C H d v ∧ RpL C H ds r
def RpF (C : Wd) (H : Hp) : List (Str × D) → List (Str × V) → Prop
  | [], xs => xs = []
  | (n, d) :: fs, xs => ∃ v r, xs = (n, v) :: r ∧ Rp C H d v ∧ RpF C H fs r
def RpV (C : Wd) (H : Hp) : List (D × D) → List V → Prop
  | [], xs => xs = []
  | (_, d) :: fs, xs => ∃ v r, xs = v :: r ∧ Rp C H d v ∧ RpV C H fs r
end
mutual
theorem Rp.mono {C : Wd} {H H' : Hp} (e : Ex H H') : ∀ (d : D) (v : V), Rp C H d v → Rp C H' d v
  | .non, _, h => by simpa [Rp] using h
  | .bl _, _, h => by simpa [Rp] using h
  | .int _, _, h => by simpa [Rp] using h
  | .str _, _, h => by simpa [Rp] using h
  | .tup ds, v, h => by
    simp only [Rp] at h ⊢
    obtain ⟨a, xs, e1, h1, h2⟩ := h
    exact ⟨a, xs, e1, e _ _ h1, RpL.mono e ds xs h2⟩
  | .lst ds, v, h => by
    simp only [Rp] at h ⊢
    obtain ⟨a, xs, e1, h1, h2⟩ := h
    exact ⟨a, xs, e1, e _ _ h1, RpL.mono e ds xs h2⟩
  | .scr ns, v, h => by
    simp only [Rp] at h ⊢
    obtain ⟨a, e1, h1⟩ := h
    exact ⟨a, e1, Evl.ex_l e h1⟩
  | .dct t kvs, v, h => by
    simp only [Rp] at h ⊢
    obtain ⟨a, xs, e1, h1, h2⟩ := h
    exact ⟨a, xs, e1, h1.mono (fun o q => e _ _ q) e, RpV.mono e kvs xs h2⟩
  | .box _, _, h => by simp only [Rp] at h
  | .ins c fs, v, h => by
    simp only [Rp] at h ⊢
    obtain ⟨a, Ca, dx, xs, e1, h0, h1, h2⟩ := h
    exact ⟨a, Ca, dx, xs, e1, h0, e _ _ h1, RpF.mono e fs xs h2⟩
theorem RpL.mono {C : Wd} {H H' : Hp} (e : Ex H H') : ∀ (ds : List D) (xs : List V), RpL C H ds xs → RpL C H' ds xs
  | [], _, h => by simpa [RpL] using h
  | d :: ds, xs, h => by
    simp only [RpL] at h ⊢
    obtain ⟨v, r, e1, h1, h2⟩ := h
    exact ⟨v, r, e1, Rp.mono e d v h1, RpL.mono e ds r h2⟩
theorem RpF.mono {C : Wd} {H H' : Hp} (e : Ex H H') : ∀ (ds : List (Str × D)) (xs : List (Str × V)), RpF C H ds xs → RpF C H' ds xs
  | [], _, h => by simpa [RpF] using h
  | (n, d) :: ds, xs, h => by
    simp only [RpF] at h ⊢
    obtain ⟨v, r, e1, h1, h2⟩ := h
    exact ⟨v, r, e1, Rp.mono e d v h1, RpF.mono e ds r h2⟩
theorem RpV.mono {C : Wd} {H H' : Hp} (e : Ex H H') : ∀ (ds : List (D × D)) (xs : List V), RpV C H ds xs → RpV C H' ds xs
  | [], _, h => by simpa [RpV] using h
  | (_, d) :: ds, xs, h => by
    simp only [RpV] at h ⊢
    obtain ⟨v, r, e1, h1, h2⟩ := h
    exact ⟨v, r, e1, Rp.mono e d v h1, RpV.mono e ds r h2⟩
end
section
variable {C : Wd} {H : Hp}
theorem RpL.nil : RpL C H [] [] := by simp only [RpL]
theorem RpL.cons {d : D} {ds : List D} {v : V} {r : List V} (h : Rp C H d v) (t : RpL C H ds r) : RpL C H (d :: ds) (v :: r) := by
  simp only [RpL]; exact ⟨v, r, rfl, h, t⟩
theorem RpL.length : ∀ {ds : List D} {xs : List V}, RpL C H ds xs → xs.length = ds.length
  | [], xs, h => by simp only [RpL] at h; subst h; rfl
  | d :: ds, xs, h => by
    simp only [RpL] at h
    obtain ⟨v, r, rfl, _, h2⟩ := h
    simp [RpL.length h2]
theorem RpL.get : ∀ {ds : List D} {xs : List V} {i : Nat} {d : D}, RpL C H ds xs → ds[i]? = some d → ∃ v, xs[i]? = some v ∧ Rp C H d v
  | [], xs, i, d, h, e => by simp at e
  | d0 :: ds, xs, 0, d, h, e => by
    simp only [RpL] at h
    obtain ⟨v, r, rfl, h1, _⟩ := h
    simp at e; subst e
    exact ⟨v, rfl, h1⟩
  | d0 :: ds, xs, i + 1, d, h, e => by
    simp only [RpL] at h
    obtain ⟨v, r, rfl, _, h2⟩ := h
    simp at e
    obtain ⟨v', e1, e2⟩ := RpL.get h2 e
    exact ⟨v', by simpa using e1, e2⟩
theorem RpL.get' : ∀ {ds : List D} {xs : List V} {i : Nat} {v : V}, RpL C H ds xs → xs[i]? = some v → ∃ d, ds[i]? = some d ∧ Rp C H d v := fun {ds xs i v} h e => by
  have hl := h.length
  have hi : i < ds.length := by have := (List.getElem?_eq_some_iff.mp e).1; omega
  obtain ⟨v', e1, e2⟩ := h.get (List.getElem?_eq_getElem hi)
  rw [e] at e1; cases e1
  exact ⟨_, List.getElem?_eq_getElem hi, e2⟩
theorem RpL.append : ∀ {ds es : List D} {xs ys : List V}, RpL C H ds xs → RpL C H es ys → RpL C H (ds ++ es) (xs ++ ys)
  | [], es, xs, ys, h, h' => by simp only [RpL] at h; subst h; exact h'
  | d :: ds, es, xs, ys, h, h' => by
    simp only [RpL] at h
    obtain ⟨v, r, rfl, h1, h2⟩ := h
    exact RpL.cons h1 (RpL.append h2 h')
theorem RpL.take : ∀ {ds : List D} {xs : List V} (n : Nat), RpL C H ds xs → RpL C H (ds.take n) (xs.take n)
  | _, _, 0, _ => RpL.nil
  | [], xs, n + 1, h => by simp only [RpL] at h; subst h; exact RpL.nil
  | d :: ds, xs, n + 1, h => by
    simp only [RpL] at h
    obtain ⟨v, r, rfl, h1, h2⟩ := h
    exact RpL.cons h1 (RpL.take n h2)
theorem RpL.drop : ∀ {ds : List D} {xs : List V} (n : Nat), RpL C H ds xs → RpL C H (ds.drop n) (xs.drop n)
  | _, _, 0, h => h
  | [], xs, n + 1, h => by simp only [RpL] at h; subst h; exact RpL.nil
  | d :: ds, xs, n + 1, h => by
    simp only [RpL] at h
    obtain ⟨v, r, rfl, h1, h2⟩ := h
    exact RpL.drop n h2
theorem RpL.set : ∀ {ds : List D} {xs : List V} (n : Nat) {d : D} {v : V}, RpL C H ds xs → Rp C H d v → RpL C H (ds.set n d) (xs.set n v)
  | [], xs, n, d, v, h, h' => by simp only [RpL] at h; subst h; exact RpL.nil
  | d0 :: ds, xs, 0, d, v, h, h' => by
    simp only [RpL] at h
    obtain ⟨v0, r, rfl, h1, h2⟩ := h
    exact RpL.cons h' h2
  | d0 :: ds, xs, n + 1, d, v, h, h' => by
    simp only [RpL] at h
    obtain ⟨v0, r, rfl, h1, h2⟩ := h
    exact RpL.cons h1 (RpL.set n h2 h')
theorem RpL.reverse : ∀ {ds : List D} {xs : List V}, RpL C H ds xs → RpL C H ds.reverse xs.reverse
  | [], xs, h => by simp only [RpL] at h; subst h; exact RpL.nil
  | d :: ds, xs, h => by
    simp only [RpL] at h
    obtain ⟨v, r, rfl, h1, h2⟩ := h
    rw [List.reverse_cons, List.reverse_cons]
    exact (RpL.reverse h2).append (RpL.cons h1 RpL.nil)
end
inductive Bnd where
  | fz (d : D)
  | own (d : D)
  | io (d : D)
def Bnd.ow : Bnd → Bool
  | .fz _ => false
  | .own _ => true
  | .io _ => true
def Bnd.d : Bnd → D
  | .fz d => d
  | .own d => d
  | .io d => d
abbrev SE := List (Option Bnd)
def OwnAt (C : Wd) (Hs H : Hp) : D → Addr → Prop
  | .lst ds, a => ∃ xs, H a = some (.lst xs) ∧ RpL C Hs ds xs
  | .ins c fs, a => ∃ Ca dx xs, C.mg c = some (.ref Ca) ∧ H a = some (.ins Ca dx xs) ∧ RpF C Hs fs xs
  | .dct t kvs, a => ∃ xs, DictAt C H Hs a t (kvs.map Prod.fst) xs ∧ RpV C Hs kvs xs
  | _, _ => False
theorem OwnAt.there {C : Wd} {Hs H : Hp} {d : D} {a : Addr} (h : OwnAt C Hs H d a) : ∃ o, H a = some o := by
  cases d with
  | lst ds => obtain ⟨xs, e, _⟩ := h; exact ⟨_, e⟩
  | ins c fs => obtain ⟨_, _, _, _, e, _⟩ := h; exact ⟨_, e⟩
  | dct t kvs => obtain ⟨xs, e, _⟩ := h; exact e.there
  | _ => exact h.elim
theorem OwnAt.mono {C : Wd} {Hs H Hs' H' : Hp} {d : D} {a : Addr} (h : OwnAt C Hs H d a) (e : Ex Hs Hs') (k : ∀ o, H a = some o → H' a = some o) : OwnAt C Hs' H' d a := by
  cases d with
  | lst ds => obtain ⟨xs, e1, e2⟩ := h; exact ⟨xs, k _ e1, RpL.mono e _ _ e2⟩
  | ins c fs => obtain ⟨Ca, dx, xs, e0, e1, e2⟩ := h; exact ⟨Ca, dx, xs, e0, k _ e1, RpF.mono e _ _ e2⟩
  | dct t kvs => obtain ⟨xs, e1, e2⟩ := h; exact ⟨xs, e1.mono k e, RpV.mono e _ _ e2⟩
  | _ => exact h.elim
mutual
def ft (H : Hp) : D → Addr → List Addr
  | .lst ds, a => a :: (match H a with
    | some (.lst xs) => ftL H ds xs
    | _ => [])
  | .ins _ fs, a => a :: (match H a with
    | some (.ins _ _ xs) => ftF H fs xs
    | _ => [])
  | _, a => [a]
def ftL (H : Hp) : List D → List V → List Addr
  | d :: ds, x :: xs => ftV H d x ++ ftL H ds xs
  | _, _ => []
def ftF (H : Hp) : List (Str × D) → List (Str × V) → List Addr
  | (_, d) :: ds, x :: xs => ftV H d x.2 ++ ftF H ds xs
  | _, _ => []
def ftV (H : Hp) : D → V → List Addr
  | .box d, x => match x with
    | .ref b => ft H d b
    | _ => []
  | _, _ => []
end
mutual
def TrAt (C : Wd) (Hs H : Hp) : D → Addr → Prop
  | .lst ds, a => ∃ xs, H a = some (.lst xs) ∧ TrL C Hs H ds xs
  | .ins c fs, a => ∃ Ca dx xs, C.mg c = some (.ref Ca) ∧ H a = some (.ins Ca dx xs) ∧ TrF C Hs H fs xs
  | .dct t kvs, a => ∃ xs, DictAt C H Hs a t (kvs.map Prod.fst) xs ∧ RpV C Hs kvs xs
  | _, _ => False
def TrL (C : Wd) (Hs H : Hp) : List D → List V → Prop
  | [], xs => xs = []
  | d :: ds, xs => ∃ v r, xs = v :: r ∧ TrV C Hs H d v ∧ TrL C Hs H ds r
def TrF (C : Wd) (Hs H : Hp) : List (Str × D) → List (Str × V) → Prop
  | [], xs => xs = []
  | (n, d) :: ds, xs => ∃ v r, xs = (n, v) :: r ∧ TrV C Hs H d v ∧ TrF C Hs H ds r
def TrV (C : Wd) (Hs H : Hp) : D → V → Prop
  | .box d, v => ∃ b, v = .ref b ∧ TrAt C Hs H d b
  | .non, v => Rp C Hs .non v
  | .bl b, v => Rp C Hs (.bl b) v
  | .int b, v => Rp C Hs (.int b) v
  | .str b, v => Rp C Hs (.str b) v
  | .tup b, v => Rp C Hs (.tup b) v
  | .lst b, v => Rp C Hs (.lst b) v
  | .scr b, v => Rp C Hs (.scr b) v
  | .dct t b, v => Rp C Hs (.dct t b) v
  | .ins c b, v => Rp C Hs (.ins c b) v
end
theorem ft_self {H : Hp} {d : D} {a : Addr} : a ∈ ft H d a := by cases d <;> unfold ft <;> exact List.mem_cons_self
theorem TrV.of {C : Wd} {Hs H : Hp} {d : D} {v : V} (h : Rp C Hs d v) : TrV C Hs H d v := by
  cases d with
  | box d => simp only [Rp] at h
  | _ => simp only [TrV]; exact h
theorem ftV_flat {C : Wd} {Hs H : Hp} {d : D} {v : V} (h : Rp C Hs d v) : ftV H d v = [] := by
  cases d with
  | box d => simp only [Rp] at h
  | _ => simp only [ftV]
theorem TrL.of {C : Wd} {Hs H : Hp} : ∀ {ds : List D} {xs : List V}, RpL C Hs ds xs → TrL C Hs H ds xs ∧ ftL H ds xs = []
  | [], xs, h => by simp only [RpL] at h; subst h; exact ⟨by simp only [TrL], by simp only [ftL]⟩
  | d :: ds, xs, h => by
    simp only [RpL] at h
    obtain ⟨v, r, rfl, h1, h2⟩ := h
    obtain ⟨q1, q2⟩ := TrL.of (H := H) h2
    exact ⟨by simp only [TrL]; exact ⟨v, r, rfl, TrV.of h1, q1⟩, by simp only [ftL, ftV_flat h1, q2, List.append_nil]⟩
theorem TrF.of {C : Wd} {Hs H : Hp} : ∀ {ds : List (Str × D)} {xs : List (Str × V)}, RpF C Hs ds xs → TrF C Hs H ds xs ∧ ftF H ds xs = []
  | [], xs, h => by simp only [RpF] at h; subst h; exact ⟨by simp only [TrF], by simp only [ftF]⟩
  | (n, d) :: ds, xs, h => by
    simp only [RpF] at h
    obtain ⟨v, r, rfl, h1, h2⟩ := h
    obtain ⟨q1, q2⟩ := TrF.of (H := H) h2
    exact ⟨by simp only [TrF]; exact ⟨v, r, rfl, TrV.of h1, q1⟩, by simp only [ftF, ftV_flat h1, q2, List.append_nil]⟩
theorem OwnAt.tree {C : Wd} {Hs H : Hp} {d : D} {a : Addr} (h : OwnAt C Hs H d a) : TrAt C Hs H d a ∧ ft H d a = [a] := by
  cases d with
  | lst ds =>
    obtain ⟨xs, e1, e2⟩ := h
    obtain ⟨q1, q2⟩ := TrL.of (H := H) e2
    exact ⟨by simp only [TrAt]; exact ⟨xs, e1, q1⟩, by simp only [ft, e1, q2]⟩
  | ins c fs =>
    obtain ⟨Ca, dx, xs, e0, e1, e2⟩ := h
    obtain ⟨q1, q2⟩ := TrF.of (H := H) e2
    exact ⟨by simp only [TrAt]; exact ⟨Ca, dx, xs, e0, e1, q1⟩, by simp only [ft, e1, q2]⟩
  | dct t kvs =>
    obtain ⟨xs, e1, e2⟩ := h
    exact ⟨by simp only [TrAt]; exact ⟨xs, e1, e2⟩, by simp only [ft]⟩
  | _ => exact h.elim
def noBox : D → Bool
  | .box _ => false
  | _ => true
def flatD : D → Bool
  | .lst ds => ds.all noBox
  | .ins _ fs => fs.all fun p => noBox p.2
  | _ => true
theorem TrV.flat {C : Wd} {Hs H : Hp} {d : D} {v : V} (h : TrV C Hs H d v) (f : noBox d = true) : Rp C Hs d v := by
  cases d with
  | box d => cases f
  | _ => simp only [TrV] at h; exact h
theorem TrL.flat {C : Wd} {Hs H : Hp} : ∀ {ds : List D} {xs : List V}, TrL C Hs H ds xs → ds.all noBox = true → RpL C Hs ds xs
  | [], xs, h, _ => by simp only [TrL] at h; simp only [RpL]; exact h
  | d :: ds, xs, h, f => by
    simp only [TrL] at h
    obtain ⟨v, r, rfl, h1, h2⟩ := h
    rw [List.all_cons, Bool.and_eq_true] at f
    exact RpL.cons (h1.flat f.1) (TrL.flat h2 f.2)
theorem TrF.flat {C : Wd} {Hs H : Hp} : ∀ {ds : List (Str × D)} {xs : List (Str × V)}, TrF C Hs H ds xs → (ds.all fun p => noBox p.2) = true → RpF C Hs ds xs
  | [], xs, h, _ => by simp only [TrF] at h; simp only [RpF]; exact h
  | (n, d) :: ds, xs, h, f => by
    simp only [TrF] at h
    obtain ⟨v, r, rfl, h1, h2⟩ := h
    rw [List.all_cons, Bool.and_eq_true] at f
    simp only [RpF]
    exact ⟨v, r, rfl, h1.flat f.1, TrF.flat h2 f.2⟩
theorem TrAt.flat {C : Wd} {Hs H : Hp} {d : D} {a : Addr} (h : TrAt C Hs H d a) (f : flatD d = true) : OwnAt C Hs H d a := by
  cases d with
  | lst ds => simp only [TrAt] at h; obtain ⟨xs, e1, e2⟩ := h; exact ⟨xs, e1, e2.flat f⟩
  | ins c fs => simp only [TrAt] at h; obtain ⟨Ca, dx, xs, e0, e1, e2⟩ := h; exact ⟨Ca, dx, xs, e0, e1, e2.flat f⟩
  | dct t kvs => simp only [TrAt] at h; exact h
  | _ => simp only [TrAt] at h
mutual
theorem TrAt.mono {C : Wd} {Hs Hs' H H' : Hp} (e : Ex Hs Hs') : ∀ (d : D) (a : Addr), TrAt C Hs H d a → (∀ x ∈ ft H d a, H' x = H x) → TrAt C Hs' H' d a ∧ ft H' d a = ft H d a
  | .lst ds, a, h, k => by
    simp only [TrAt] at h ⊢
    obtain ⟨xs, e1, e2⟩ := h
    simp only [ft, e1] at k ⊢
    have ea := (k a List.mem_cons_self).trans e1
    obtain ⟨q1, q2⟩ := TrL.mono e ds xs e2 fun x hx => k x (List.mem_cons_of_mem _ hx)
    exact ⟨⟨xs, ea, q1⟩, by simp only [ea, q2]⟩
  | .ins c fs, a, h, k => by
    simp only [TrAt] at h ⊢
    obtain ⟨Ca, dx, xs, e0, e1, e2⟩ := h
    simp only [ft, e1] at k ⊢
    have ea := (k a List.mem_cons_self).trans e1
    obtain ⟨q1, q2⟩ := TrF.mono e fs xs e2 fun x hx => k x (List.mem_cons_of_mem _ hx)
    exact ⟨⟨Ca, dx, xs, e0, ea, q1⟩, by simp only [ea, q2]⟩
  | .dct t kvs, a, h, k => by
    simp only [TrAt] at h ⊢
    obtain ⟨xs, e1, e2⟩ := h
    have ka : H' a = H a := k a (by unfold ft; exact List.mem_cons_self)
    exact ⟨⟨xs, e1.mono (fun o q => ka.trans q) e, RpV.mono e _ _ e2⟩, by simp only [ft]⟩
  | .non, a, h, k => by simp only [TrAt] at h
  | .bl _, a, h, k => by simp only [TrAt] at h
  | .int _, a, h, k => by simp only [TrAt] at h
  | .str _, a, h, k => by simp only [TrAt] at h
  | .tup _, a, h, k => by simp only [TrAt] at h
  | .scr _, a, h, k => by simp only [TrAt] at h
  | .box _, a, h, k => by simp only [TrAt] at h
theorem TrL.mono {C : Wd} {Hs Hs' H H' : Hp} (e : Ex Hs Hs') : ∀ (ds : List D) (xs : List V), TrL C Hs H ds xs → (∀ x ∈ ftL H ds xs, H' x = H x) → TrL C Hs' H' ds xs ∧ ftL H' ds xs = ftL H ds xs
  | [], xs, h, k => by simp only [TrL] at h ⊢; subst h; exact ⟨rfl, by simp only [ftL]⟩
  | d :: ds, xs, h, k => by
    simp only [TrL] at h ⊢
    obtain ⟨v, r, rfl, h1, h2⟩ := h
    simp only [ftL] at k ⊢
    obtain ⟨q1, q2⟩ := TrV.mono e d v h1 fun x hx => k x (List.mem_append_left _ hx)
    obtain ⟨q3, q4⟩ := TrL.mono e ds r h2 fun x hx => k x (List.mem_append_right _ hx)
    exact ⟨⟨v, r, rfl, q1, q3⟩, by rw [q2, q4]⟩
theorem TrF.mono {C : Wd} {Hs Hs' H H' : Hp} (e : Ex Hs Hs') : ∀ (ds : List (Str × D)) (xs : List (Str × V)), TrF C Hs H ds xs → (∀ x ∈ ftF H ds xs, H' x = H x) → TrF C Hs' H' ds xs ∧ ftF H' ds xs = ftF H ds xs
  | [], xs, h, k => by simp only [TrF] at h ⊢; subst h; exact ⟨rfl, by simp only [ftF]⟩
  | (n, d) :: ds, xs, h, k => by
    simp only [TrF] at h ⊢
    obtain ⟨v, r, rfl, h1, h2⟩ := h
    simp only [ftF] at k ⊢
    obtain ⟨q1, q2⟩ := TrV.mono e d v h1 fun x hx => k x (List.mem_append_left _ hx)
    obtain ⟨q3, q4⟩ := TrF.mono e ds r h2 fun x hx => k x (List.mem_append_right _ hx)
    exact ⟨⟨v, r, rfl, q1, q3⟩, by rw [q2, q4]⟩
theorem TrV.mono {C : Wd} {Hs Hs' H H' : Hp} (e : Ex Hs Hs') : ∀ (d : D) (v : V), TrV C Hs H d v → (∀ x ∈ ftV H d v, H' x = H x) → TrV C Hs' H' d v ∧ ftV H' d v = ftV H d v
  | .box d, v, h, k => by
    simp only [TrV] at h ⊢
    obtain ⟨b, rfl, h1⟩ := h
    simp only [ftV] at k ⊢
    obtain ⟨q1, q2⟩ := TrAt.mono e d b h1 k
    exact ⟨⟨b, rfl, q1⟩, q2⟩
  | .non, v, h, k => by simp only [TrV, ftV] at h ⊢; exact ⟨Rp.mono e _ _ h, trivial⟩
  | .bl _, v, h, k => by simp only [TrV, ftV] at h ⊢; exact ⟨Rp.mono e _ _ h, trivial⟩
  | .int _, v, h, k => by simp only [TrV, ftV] at h ⊢; exact ⟨Rp.mono e _ _ h, trivial⟩
  | .str _, v, h, k => by simp only [TrV, ftV] at h ⊢; exact ⟨Rp.mono e _ _ h, trivial⟩
  | .tup _, v, h, k => by simp only [TrV, ftV] at h ⊢; exact ⟨Rp.mono e _ _ h, trivial⟩
  | .lst _, v, h, k => by simp only [TrV, ftV] at h ⊢; exact ⟨Rp.mono e _ _ h, trivial⟩
  | .scr _, v, h, k => by simp only [TrV, ftV] at h ⊢; exact ⟨Rp.mono e _ _ h, trivial⟩
  | .dct _ _, v, h, k => by simp only [TrV, ftV] at h ⊢; exact ⟨Rp.mono e _ _ h, trivial⟩
  | .ins _ _, v, h, k => by simp only [TrV, ftV] at h ⊢; exact ⟨Rp.mono e _ _ h, trivial⟩
end
def uni (Hs H : Hp) (A : List Addr) : Hp := fun x => if x ∈ A then H x else Hs x
theorem uni_in {Hs H : Hp} {A : List Addr} {x : Addr} (h : x ∈ A) : uni Hs H A x = H x := if_pos h
theorem uni_out {Hs H : Hp} {A : List Addr} {x : Addr} (h : x ∉ A) : uni Hs H A x = Hs x := if_neg h
theorem uni_ex {Hs H : Hp} {A : List Addr} (n : ∀ x ∈ A, Hs x = none) : Ex Hs (uni Hs H A) := fun x o q => by
  rw [uni_out fun z => by rw [n x z] at q; cases q]; exact q
theorem uni_le {Hs H : Hp} {A : List Addr} (e : Ex Hs H) : Ex (uni Hs H A) H := fun x o q => by
  by_cases z : x ∈ A
  · rw [uni_in z] at q; exact q
  · rw [uni_out z] at q; exact e x o q
mutual
def open_ : D → D
  | .lst ds => .lst (opens ds)
  | .ins c fs => .ins c (openF fs)
  | .box d => open_ d
  | .non => .non
  | .bl b => .bl b
  | .int i => .int i
  | .str s => .str s
  | .tup ds => .tup ds
  | .scr ns => .scr ns
  | .dct t kvs => .dct t kvs
def opens : List D → List D
  | [] => []
  | d :: ds => openV d :: opens ds
def openF : List (Str × D) → List (Str × D)
  | [] => []
  | (n, d) :: ds => (n, openV d) :: openF ds
def openV : D → D
  | .box d => open_ d
  | .lst ds => .lst ds
  | .ins c fs => .ins c fs
  | .non => .non
  | .bl b => .bl b
  | .int i => .int i
  | .str s => .str s
  | .tup ds => .tup ds
  | .scr ns => .scr ns
  | .dct t kvs => .dct t kvs
end
mutual
theorem TrAt.freeze {C : Wd} {Hs H Hf : Hp} (e : Ex Hs Hf) : ∀ (d : D) (a : Addr), TrAt C Hs H d a → (∀ x ∈ ft H d a, ∀ o, H x = some o → Hf x = some o) → Rp C Hf (open_ d) (.ref a)
  | .lst ds, a, h, k => by
    simp only [TrAt] at h
    obtain ⟨xs, e1, e2⟩ := h
    simp only [ft, e1] at k
    simp only [open_, Rp]
    exact ⟨a, xs, rfl, k a List.mem_cons_self _ e1, TrL.freeze e ds xs e2 fun x hx => k x (List.mem_cons_of_mem _ hx)⟩
  | .ins c fs, a, h, k => by
    simp only [TrAt] at h
    obtain ⟨Ca, dx, xs, e0, e1, e2⟩ := h
    simp only [ft, e1] at k
    simp only [open_, Rp]
    exact ⟨a, Ca, dx, xs, rfl, e0, k a List.mem_cons_self _ e1, TrF.freeze e fs xs e2 fun x hx => k x (List.mem_cons_of_mem _ hx)⟩
  | .dct t kvs, a, h, k => by
    simp only [TrAt] at h
    obtain ⟨xs, e1, e2⟩ := h
    simp only [open_, Rp]
    exact ⟨a, xs, rfl, e1.mono (k a (by unfold ft; exact List.mem_cons_self)) e, RpV.mono e _ _ e2⟩
  | .non, a, h, k => by simp only [TrAt] at h
  | .bl _, a, h, k => by simp only [TrAt] at h
  | .int _, a, h, k => by simp only [TrAt] at h
  | .str _, a, h, k => by simp only [TrAt] at h
  | .tup _, a, h, k => by simp only [TrAt] at h
  | .scr _, a, h, k => by simp only [TrAt] at h
  | .box _, a, h, k => by simp only [TrAt] at h
theorem TrL.freeze {C : Wd} {Hs H Hf : Hp} (e : Ex Hs Hf) : ∀ (ds : List D) (xs : List V), TrL C Hs H ds xs → (∀ x ∈ ftL H ds xs, ∀ o, H x = some o → Hf x = some o) → RpL C Hf (opens ds) xs
  | [], xs, h, k => by simp only [TrL] at h; simp only [opens, RpL]; exact h
  | d :: ds, xs, h, k => by
    simp only [TrL] at h
    obtain ⟨v, r, rfl, h1, h2⟩ := h
    simp only [ftL] at k
    simp only [opens]
    exact RpL.cons (TrV.freeze e d v h1 fun x hx => k x (List.mem_append_left _ hx)) (TrL.freeze e ds r h2 fun x hx => k x (List.mem_append_right _ hx))
theorem TrF.freeze {C : Wd} {Hs H Hf : Hp} (e : Ex Hs Hf) : ∀ (ds : List (Str × D)) (xs : List (Str × V)), TrF C Hs H ds xs → (∀ x ∈ ftF H ds xs, ∀ o, H x = some o → Hf x = some o) → RpF C Hf (openF ds) xs
  | [], xs, h, k => by simp only [TrF] at h; simp only [openF, RpF]; exact h
  | (n, d) :: ds, xs, h, k => by
    simp only [TrF] at h
    obtain ⟨v, r, rfl, h1, h2⟩ := h
    simp only [ftF] at k
    simp only [openF, RpF]
    exact ⟨v, r, rfl, TrV.freeze e d v h1 fun x hx => k x (List.mem_append_left _ hx), TrF.freeze e ds r h2 fun x hx => k x (List.mem_append_right _ hx)⟩
theorem TrV.freeze {C : Wd} {Hs H Hf : Hp} (e : Ex Hs Hf) : ∀ (d : D) (v : V), TrV C Hs H d v → (∀ x ∈ ftV H d v, ∀ o, H x = some o → Hf x = some o) → Rp C Hf (openV d) v
  | .box d, v, h, k => by
    simp only [TrV] at h
    obtain ⟨b, rfl, h1⟩ := h
    simp only [ftV] at k
    simp only [openV]
    exact TrAt.freeze e d b h1 k
  | .non, v, h, k => by simp only [TrV] at h; exact Rp.mono e _ _ h
  | .bl _, v, h, k => by simp only [TrV] at h; exact Rp.mono e _ _ h
  | .int _, v, h, k => by simp only [TrV] at h; exact Rp.mono e _ _ h
  | .str _, v, h, k => by simp only [TrV] at h; exact Rp.mono e _ _ h
  | .tup _, v, h, k => by simp only [TrV] at h; exact Rp.mono e _ _ h
  | .lst _, v, h, k => by simp only [TrV] at h; exact Rp.mono e _ _ h
  | .scr _, v, h, k => by simp only [TrV] at h; exact Rp.mono e _ _ h
  | .dct _ _, v, h, k => by simp only [TrV] at h; exact Rp.mono e _ _ h
  | .ins _ _, v, h, k => by simp only [TrV] at h; exact Rp.mono e _ _ h
end
mutual
theorem TrAt.there {C : Wd} {Hs H : Hp} : ∀ (d : D) (a : Addr), TrAt C Hs H d a → ∀ x ∈ ft H d a, ∃ o, H x = some o
  | .lst ds, a, h, x, hx => by
    simp only [TrAt] at h
    obtain ⟨xs, e1, e2⟩ := h
    simp only [ft, e1] at hx
    rcases List.mem_cons.mp hx with e | hx
    · exact ⟨_, e ▸ e1⟩
    · exact TrL.there ds xs e2 x hx
  | .ins c fs, a, h, x, hx => by
    simp only [TrAt] at h
    obtain ⟨Ca, dx, xs, e0, e1, e2⟩ := h
    simp only [ft, e1] at hx
    rcases List.mem_cons.mp hx with e | hx
    · exact ⟨_, e ▸ e1⟩
    · exact TrF.there fs xs e2 x hx
  | .dct t kvs, a, h, x, hx => by
    simp only [TrAt] at h
    obtain ⟨xs, e1, e2⟩ := h
    simp only [ft] at hx
    rw [List.mem_singleton.mp hx]; exact e1.there
  | .non, a, h, _, _ => by simp only [TrAt] at h
  | .bl _, a, h, _, _ => by simp only [TrAt] at h
  | .int _, a, h, _, _ => by simp only [TrAt] at h
  | .str _, a, h, _, _ => by simp only [TrAt] at h
  | .tup _, a, h, _, _ => by simp only [TrAt] at h
  | .scr _, a, h, _, _ => by simp only [TrAt] at h
  | .box _, a, h, _, _ => by simp only [TrAt] at h
theorem TrL.there {C : Wd} {Hs H : Hp} : ∀ (ds : List D) (xs : List V), TrL C Hs H ds xs → ∀ x ∈ ftL H ds xs, ∃ o, H x = some o
  | [], xs, h, x, hx => by simp only [ftL] at hx; cases hx
  | d :: ds, xs, h, x, hx => by
    simp only [TrL] at h
    obtain ⟨v, r, rfl, h1, h2⟩ := h
    simp only [ftL] at hx
    rcases List.mem_append.mp hx with hx | hx
    · exact TrV.there d v h1 x hx
    · exact TrL.there ds r h2 x hx
theorem TrF.there {C : Wd} {Hs H : Hp} : ∀ (ds : List (Str × D)) (xs : List (Str × V)), TrF C Hs H ds xs → ∀ x ∈ ftF H ds xs, ∃ o, H x = some o
  | [], xs, h, x, hx => by simp only [ftF] at hx; cases hx
  | (n, d) :: ds, xs, h, x, hx => by
    simp only [TrF] at h
    obtain ⟨v, r, rfl, h1, h2⟩ := h
    simp only [ftF] at hx
    rcases List.mem_append.mp hx with hx | hx
    · exact TrV.there d v h1 x hx
    · exact TrF.there ds r h2 x hx
theorem TrV.there {C : Wd} {Hs H : Hp} : ∀ (d : D) (v : V), TrV C Hs H d v → ∀ x ∈ ftV H d v, ∃ o, H x = some o
  | .box d, v, h, x, hx => by
    simp only [TrV] at h
    obtain ⟨b, rfl, h1⟩ := h
    simp only [ftV] at hx
    exact TrAt.there d b h1 x hx
  | .non, v, h, x, hx => by simp only [ftV] at hx; cases hx
  | .bl _, v, h, x, hx => by simp only [ftV] at hx; cases hx
  | .int _, v, h, x, hx => by simp only [ftV] at hx; cases hx
  | .str _, v, h, x, hx => by simp only [ftV] at hx; cases hx
  | .tup _, v, h, x, hx => by simp only [ftV] at hx; cases hx
  | .lst _, v, h, x, hx => by simp only [ftV] at hx; cases hx
  | .scr _, v, h, x, hx => by simp only [ftV] at hx; cases hx
  | .dct _ _, v, h, x, hx => by simp only [ftV] at hx; cases hx
  | .ins _ _, v, h, x, hx => by simp only [ftV] at hx; cases hx
end
structure Held (C : Wd) (Hs H : Hp) (d : D) (a : Addr) : Prop where
  tr : TrAt C Hs H d a
  out : ∀ x ∈ ft H d a, Hs x = none
  nd : (ft H d a).Nodup
theorem Held.one {C : Wd} {Hs H : Hp} {d : D} {a : Addr} (h : OwnAt C Hs H d a) (n : Hs a = none) : Held C Hs H d a := by
  obtain ⟨q1, q2⟩ := h.tree
  exact ⟨q1, fun x hx => by rw [q2] at hx; rw [List.mem_singleton.mp hx]; exact n, by rw [q2]; simp⟩
theorem Held.there {C : Wd} {Hs H : Hp} {d : D} {a : Addr} (h : Held C Hs H d a) {x : Addr} (hx : x ∈ ft H d a) : ∃ o, H x = some o := TrAt.there d a h.tr x hx
theorem Held.mono {C : Wd} {Hs H Hs' H' : Hp} {d : D} {a : Addr} (h : Held C Hs H d a) (e : Ex Hs Hs') (k : ∀ x ∈ ft H d a, H' x = H x) (n : ∀ x ∈ ft H d a, Hs' x = none) : Held C Hs' H' d a ∧ ft H' d a = ft H d a := by
  obtain ⟨q1, q2⟩ := TrAt.mono e d a h.tr k
  exact ⟨⟨q1, by rw [q2]; exact n, by rw [q2]; exact h.nd⟩, q2⟩
def RB (C : Wd) (Hs H : Hp) (b : Bnd) (v : V) : Prop :=
  if b.ow = true then ∃ a, v = .ref a ∧ Held C Hs H b.d a else Rp C Hs b.d v
def Own (H : Hp) (σ : L2.St) (env : SE) (x : Addr) : Prop := ∃ (i : Nat) (b : Bnd) (a : Addr), env[i]? = some (some b) ∧ b.ow = true ∧ σ[i]? = some (some (.ref a)) ∧ x ∈ ft H b.d a
structure Rep (C : Wd) (Hs H : Hp) (σ : L2.St) (env : SE) : Prop where
  ex : Ex Hs H
  len : env.length = σ.length
  at_ : ∀ (i : Nat) (b : Bnd), env[i]? = some (some b) → ∃ v, σ[i]? = some (some v) ∧ RB C Hs H b v
  sep : ∀ (i j : Nat) (bi bj : Bnd) (a c x : Addr), env[i]? = some (some bi) → env[j]? = some (some bj) → bi.ow = true → bj.ow = true → σ[i]? = some (some (.ref a)) → σ[j]? = some (some (.ref c)) → x ∈ ft H bi.d a → x ∈ ft H bj.d c → i = j
structure Stp (C : Wd) (Hs H : Hp) (σ : L2.St) (env : SE) (Hs' H' : Hp) (σ' : L2.St) (env' : SE) : Prop where
  ex : Ex Hs Hs'
  rep : Rep C Hs' H' σ' env'
  fr : ∀ a o, H a = some o → Hs a = none → ¬ Own H σ env a → H' a = some o ∧ Hs' a = none ∧ ¬ Own H' σ' env' a
  io : ∀ (i : Nat) (d' : D), env'[i]? = some (some (Bnd.io d')) → σ'[i]? = σ[i]? ∧ ∃ d : D, env[i]? = some (some (Bnd.io d))
theorem Rep.held {C : Wd} {Hs H : Hp} {σ : L2.St} {env : SE} {i : Nat} {b : Bnd} (r : Rep C Hs H σ env) (e : env[i]? = some (some b)) (hb : b.ow = true) : ∃ a, σ[i]? = some (some (.ref a)) ∧ Held C Hs H b.d a := by
  obtain ⟨v, ev, q⟩ := r.at_ i _ e
  unfold RB at q
  rw [if_pos hb] at q
  obtain ⟨a, rfl, h⟩ := q
  exact ⟨a, ev, h⟩
theorem Own.there {C : Wd} {Hs H : Hp} {σ : L2.St} {env : SE} (r : Rep C Hs H σ env) {x : Addr} (h : Own H σ env x) : Hs x = none ∧ ∃ o, H x = some o := by
  obtain ⟨i, b, a, e1, e2, e3, e4⟩ := h
  obtain ⟨a', ea, q⟩ := r.held e1 e2
  rw [e3] at ea; cases ea
  exact ⟨q.out x e4, q.there e4⟩
theorem Stp.refl {C : Wd} {Hs H : Hp} {σ : L2.St} {env : SE} (r : Rep C Hs H σ env) : Stp C Hs H σ env Hs H σ env :=
  ⟨Ex.refl _, r, fun a o h1 h2 h3 => ⟨h1, h2, h3⟩, fun i d e => ⟨rfl, d, e⟩⟩
theorem Stp.trans {C : Wd} {Hs H Hs1 H1 Hs2 H2 : Hp} {σ σ1 σ2 : L2.St} {env env1 env2 : SE} (a : Stp C Hs H σ env Hs1 H1 σ1 env1) (b : Stp C Hs1 H1 σ1 env1 Hs2 H2 σ2 env2) : Stp C Hs H σ env Hs2 H2 σ2 env2 :=
  ⟨a.ex.trans b.ex, b.rep, fun x o h1 h2 h3 => by
    obtain ⟨k1, k2, k3⟩ := a.fr x o h1 h2 h3
    exact b.fr x o k1 k2 k3, fun i d e => by
    obtain ⟨e1, d1, e2⟩ := b.io i d e
    obtain ⟨e3, d2, e4⟩ := a.io i d1 e2
    exact ⟨e1.trans e3, d2, e4⟩⟩
structure Grow (Hs H Hs' H' : Hp) : Prop where
  ex : Ex Hs Hs'
  ex2 : Ex Hs' H'
  eh : Ex H H'
  nw : ∀ a o, H a = some o → Hs a = none → Hs' a = none
theorem Grow.refl {Hs H : Hp} (e : Ex Hs H) : Grow Hs H Hs H := ⟨Ex.refl _, e, Ex.refl _, fun _ _ _ n => n⟩
theorem Grow.trans {Hs H Hs1 H1 Hs2 H2 : Hp} (a : Grow Hs H Hs1 H1) (b : Grow Hs1 H1 Hs2 H2) : Grow Hs H Hs2 H2 :=
  ⟨a.ex.trans b.ex, b.ex2, a.eh.trans b.eh, fun x o h n => b.nw x o (a.eh x o h) (a.nw x o h n)⟩
theorem Grow.new {Hs H : Hp} {p : Addr} {o : HO} (e : Ex Hs H) (h : H p = none) : Grow Hs H Hs (upd H p o) := ⟨Ex.refl _, e.trans (Ex.new h), Ex.new h, fun _ _ _ n => n⟩
theorem Grow.newF {Hs H : Hp} {p : Addr} {o : HO} (e : Ex Hs H) (h : H p = none) : Grow Hs H (upd Hs p o) (upd H p o) :=
  ⟨Ex.new (xBack e h), fun a u q => by
    by_cases z : a = p
    · subst z; rw [upd_same] at q ⊢; exact q
    · rw [upd_ne z] at q ⊢; exact e a u q, Ex.new h, fun a u q n => by
    rw [upd_ne (ne_of_none q h)]; exact n⟩
theorem Rep.same {C : Wd} {Hs H Hs' H' : Hp} {σ : L2.St} {env : SE} (r : Rep C Hs H σ env) (e : Ex Hs Hs') (e2 : Ex Hs' H') (k : ∀ x, Own H σ env x → H' x = H x ∧ Hs' x = none) : Rep C Hs' H' σ env ∧ ∀ x, Own H' σ env x ↔ Own H σ env x := by
  have one : ∀ (i : Nat) (b : Bnd) (a : Addr), env[i]? = some (some b) → b.ow = true → σ[i]? = some (some (.ref a)) → Held C Hs' H' b.d a ∧ ft H' b.d a = ft H b.d a := fun i b a h1 h2 h3 => by
    obtain ⟨a', ea, q⟩ := r.held h1 h2
    rw [h3] at ea; cases ea
    exact q.mono e (fun x hx => (k x ⟨i, b, a, h1, h2, h3, hx⟩).1) fun x hx => (k x ⟨i, b, a, h1, h2, h3, hx⟩).2
  refine ⟨⟨e2, r.len, fun i b h1 => ?_, fun i j bi bj a c x e1 e2 e3 e4 e5 e6 e7 e8 => ?_⟩, fun x => ⟨fun ⟨i, b, a, h1, h2, h3, h4⟩ => ⟨i, b, a, h1, h2, h3, by rw [← (one i b a h1 h2 h3).2]; exact h4⟩, fun ⟨i, b, a, h1, h2, h3, h4⟩ => ⟨i, b, a, h1, h2, h3, by rw [(one i b a h1 h2 h3).2]; exact h4⟩⟩⟩
  · obtain ⟨v, ev, q⟩ := r.at_ i b h1
    refine ⟨v, ev, ?_⟩
    unfold RB at q ⊢
    by_cases hb : b.ow = true
    · rw [if_pos hb] at q ⊢
      obtain ⟨a, rfl, q⟩ := q
      exact ⟨a, rfl, (one i b a h1 hb ev).1⟩
    · rw [if_neg hb] at q ⊢
      exact Rp.mono e _ _ q
  · rw [(one i bi a e1 e3 e5).2] at e7
    rw [(one j bj c e2 e4 e6).2] at e8
    exact r.sep i j bi bj a c x e1 e2 e3 e4 e5 e6 e7 e8
theorem Grow.keeps {C : Wd} {Hs H Hs' H' : Hp} {σ : L2.St} {env : SE} (r : Rep C Hs H σ env) (g : Grow Hs H Hs' H') : ∀ x, Own H σ env x → H' x = H x ∧ Hs' x = none := fun x hx => by
  obtain ⟨n, o, q⟩ := Own.there r hx
  exact ⟨by rw [q]; exact g.eh x o q, g.nw x o q n⟩
theorem Rep.grow {C : Wd} {Hs H Hs' H' : Hp} {σ : L2.St} {env : SE} (r : Rep C Hs H σ env) (g : Grow Hs H Hs' H') : Rep C Hs' H' σ env := (r.same g.ex g.ex2 (g.keeps r)).1
theorem Own.grow {C : Wd} {Hs H Hs' H' : Hp} {σ : L2.St} {env : SE} (r : Rep C Hs H σ env) (g : Grow Hs H Hs' H') (x : Addr) : Own H' σ env x ↔ Own H σ env x := (r.same g.ex g.ex2 (g.keeps r)).2 x
theorem Stp.grow {C : Wd} {Hs H Hs' H' : Hp} {σ : L2.St} {env : SE} (r : Rep C Hs H σ env) (g : Grow Hs H Hs' H') : Stp C Hs H σ env Hs' H' σ env :=
  ⟨g.ex, r.grow g, fun a o h1 h2 h3 => ⟨g.eh a o h1, g.nw a o h1 h2, fun z => h3 ((Own.grow r g a).mp z)⟩, fun i d e => ⟨rfl, d, e⟩⟩
inductive Out (α : Type) where
  | ok (a : α) (e : SE)
  | exc (c : Str) (d : D) (e : SE)
abbrev M (α : Type) := SE → Option (Out α)
inductive Val where
  | fz (d : D)
  | fr (d : D)
  | bor (i : Nat)
def M.bind {α β : Type} (p : M α) (f : α → M β) : M β := fun env =>
  match p env with
  | some (.ok a e) => f a e
  | some (.exc c d e) => some (.exc c d e)
  | none => none
def M.pure {α : Type} (a : α) : M α := fun env => some (.ok a env)
def Nw (Hs H : Hp) (σ : L2.St) (env : SE) (a : Addr) : Prop := ∀ o, H a = some o → Hs a = none → Own H σ env a
def RV (C : Wd) (Hs H : Hp) (σ : L2.St) (env : SE) (Hs' H' : Hp) (σ' : L2.St) (env' : SE) : Val → V → Prop
  | .fz d, v => Rp C Hs' d v
  | .fr d, v => ∃ a, v = .ref a ∧ Held C Hs' H' d a ∧ ∀ x ∈ ft H' d a, ¬ Own H' σ' env' x ∧ Nw Hs H σ env x
  | .bor i, v => σ'[i]? = some (some v)
def VV (C : Wd) (Hs : Hp) (σ : L2.St) : Val → V → Prop
  | .fz d, v => Rp C Hs d v
  | .bor i, v => σ[i]? = some (some v)
  | .fr _, _ => False
theorem VV.mono {C : Wd} {Hs Hs' : Hp} {σ : L2.St} {a : Val} {v : V} (e : Ex Hs Hs') (h : VV C Hs σ a v) : VV C Hs' σ a v := by
  cases a with
  | fz d => exact Rp.mono e _ _ h
  | bor i => exact h
  | fr d => exact h
def ExR (C : Wd) (Hs' : Hp) (c : Str) (d : D) (cls : Value) (od : Option Addr) : Prop :=
  ∃ Ca dd v, C.mg c = some (.ref Ca) ∧ cls = .ref Ca ∧ od = some dd ∧ Hs' dd = some (.xd [(("value" : Str), v)]) ∧ Rp C Hs' d v
abbrev R0 (α β : Type) := Hp → Hp → L2.St → SE → Hp → Hp → SE → α → β → Prop
def Fin {α β : Type} (C : Wd) (W : WX) (R : R0 α β) (Hs H : Hp) (σ : L2.St) (env : SE) (Q : β → Hp → Prop) : Out α → Prop
  | .ok a env' => ∀ v H' Hs', Stp C Hs H σ env Hs' H' σ env' → R Hs H σ env Hs' H' env' a v → Q v H'
  | .exc c d env' => ∀ cls od H' Hs', Stp C Hs H σ env Hs' H' σ env' → ExR C Hs' c d cls od → W cls od σ H'
def Tm {α β : Type} (C : Wd) (W : WX) (R : R0 α β) (p : M α) (σ : L2.St) (H : Hp) (Q : β → Hp → Prop) : Prop :=
  ∃ env Hs r, Rep C Hs H σ env ∧ p env = some r ∧ Fin C W R Hs H σ env Q r
abbrev RVx (C : Wd) : R0 Val V := fun Hs H σ env Hs' H' env' a v => RV C Hs H σ env Hs' H' σ env' a v
abbrev RBx : R0 Bool Bool := fun _ _ _ _ _ _ _ a v => a = v
def RVs (C : Wd) (Hs' : Hp) (σ : L2.St) : List Val → List V → Prop
  | [], vs => vs = []
  | a :: r, vs => ∃ v t, vs = v :: t ∧ VV C Hs' σ a v ∧ RVs C Hs' σ r t
theorem RVs.mono {C : Wd} {Hs Hs' : Hp} {σ : L2.St} (e : Ex Hs Hs') : ∀ {l : List Val} {vs : List V}, RVs C Hs σ l vs → RVs C Hs' σ l vs
  | [], _, h => h
  | _ :: _, _, ⟨v, t, e1, h1, h2⟩ => ⟨v, t, e1, h1.mono e, RVs.mono e h2⟩
abbrev RAx (C : Wd) : R0 (List Val) (List V) := fun _ _ σ _ Hs' _ _ a v => RVs C Hs' σ a v
def tX (C : Wd) (W : WX) (p : M Val) : TE := Tm C W (RVx C) p
def tT (C : Wd) (W : WX) (p : M Bool) : TT := Tm C W RBx p
def tA (C : Wd) (W : WX) (p : M (List Val)) : TA := Tm C W (RAx C) p
theorem pe_weak {X : Cx} {e : Expr} {t t' : TE} (h : PE X e t) (k : ∀ σ H Q, t' σ H Q → t σ H Q) : PE X e t' := ⟨fun pins s σ H Q I q => h.run pins s σ H Q I (k σ H Q q)⟩
theorem pt_weak {X : Cx} {e : Expr} {t t' : TT} (h : PT X e t) (k : ∀ σ H Q, t' σ H Q → t σ H Q) : PT X e t' := ⟨fun pins s σ H Q I q => h.run pins s σ H Q I (k σ H Q q)⟩
theorem pw_weak {X : Cx} {e : Expr} {t t' : TT} (h : PW X e t) (k : ∀ σ H Q, t' σ H Q → t σ H Q) : PW X e t' := ⟨fun wh pins s σ H Q I q => h.run wh pins s σ H Q I (k σ H Q q)⟩
theorem pa_weak {X : Cx} {es : List Expr} {t t' : TA} (h : PA X es t) (k : ∀ σ H Q, t' σ H Q → t σ H Q) : PA X es t' := ⟨fun pos pins s σ H Q I q => h.run pos pins s σ H Q I (k σ H Q q)⟩
theorem ps_weak {X : Cx} {st : Stmt} {t t' : TS} (h : PS X st t) (k : ∀ D σ H, t' D σ H → t D σ H) : PS X st t' := ⟨fun pins s σ H D I q => h.run pins s σ H D I (k D σ H q)⟩
theorem pss_weak {X : Cx} {st : List Stmt} {t t' : TS} (h : PSs X st t) (k : ∀ D σ H, t' D σ H → t D σ H) : PSs X st t' := ⟨fun pins s σ H D I q => h.run pins s σ H D I (k D σ H q)⟩
theorem Tm.bindAt {α β γ δ : Type} {C : Wd} {W : WX} {R : R0 α β} {S : R0 γ δ} {p : M α} {f : α → M γ} {σ : L2.St} {H : Hp} {Q : δ → Hp → Prop} {Q' : β → Hp → Prop} {Hs : Hp} {env : SE} {r : Out γ} (rp : Rep C Hs H σ env) (e : (p.bind f) env = some r)
    (fin : Fin C W S Hs H σ env Q r) (k : ∀ a env1 v H1 Hs1, p env = some (.ok a env1) → Stp C Hs H σ env Hs1 H1 σ env1 → R Hs H σ env Hs1 H1 env1 a v → f a env1 = some r → Q' v H1) : Tm C W R p σ H Q' := by
  unfold M.bind at e
  cases hp : p env with
  | none => rw [hp] at e; cases e
  | some o =>
    rw [hp] at e
    cases o with
    | ok a env1 => exact ⟨env, Hs, _, rp, hp, fun v H1 Hs1 st rv => k a env1 v H1 Hs1 hp st rv e⟩
    | exc c d env1 => cases e; exact ⟨env, Hs, _, rp, hp, fin⟩
theorem Fin.later {α β : Type} {C : Wd} {W : WX} {S : R0 α β} {Hs H Hs1 H1 : Hp} {σ : L2.St} {env env1 : SE} {Q : β → Hp → Prop} {r : Out α} (st : Stp C Hs H σ env Hs1 H1 σ env1) (fin : Fin C W S Hs H σ env Q r)
    (k : ∀ Hs' H' env' a v, Stp C Hs1 H1 σ env1 Hs' H' σ env' → S Hs1 H1 σ env1 Hs' H' env' a v → S Hs H σ env Hs' H' env' a v) : Fin C W S Hs1 H1 σ env1 Q r := by
  cases r with
  | ok a e => exact fun v H' Hs' s2 rv => fin v H' Hs' (st.trans s2) (k _ _ _ _ _ s2 rv)
  | exc c d e => exact fun cls od H' Hs' s2 x => fin cls od H' Hs' (st.trans s2) x
theorem Nw.later {C : Wd} {Hs H Hs1 H1 : Hp} {σ σ1 : L2.St} {env env1 : SE} (st : Stp C Hs H σ env Hs1 H1 σ1 env1) {a : Addr} (h : Nw Hs1 H1 σ1 env1 a) : Nw Hs H σ env a := fun o h1 h2 => by
  by_cases z : Own H σ env a
  · exact z
  · obtain ⟨k1, k2, k3⟩ := st.fr a o h1 h2 z
    exact absurd (h o k1 k2) k3
theorem RV.later {C : Wd} {Hs H Hs1 H1 Hs' H' : Hp} {σ σ1 σ' : L2.St} {env env1 env' : SE} (st : Stp C Hs H σ env Hs1 H1 σ1 env1) {a : Val} {v : V} (h : RV C Hs1 H1 σ1 env1 Hs' H' σ' env' a v) : RV C Hs H σ env Hs' H' σ' env' a v := by
  cases a with
  | fz d => exact h
  | fr d =>
    obtain ⟨b, e, o, q⟩ := h
    exact ⟨b, e, o, fun x hx => ⟨(q x hx).1, (q x hx).2.later st⟩⟩
  | bor i => exact h
end VE
namespace VE
open PySem PySem.Spec PyProof.Rows L2
theorem set_at {α : Type} {l : List (Option α)} {i j : Nat} {x : Option α} {b : α} (e : (l.set i x)[j]? = some (some b)) : (j = i ∧ x = some b ∧ i < l.length) ∨ (j ≠ i ∧ l[j]? = some (some b)) := by
  by_cases z : j = i
  · subst z
    by_cases hl : j < l.length
    · rw [List.getElem?_set_self hl] at e
      exact .inl ⟨rfl, Option.some.inj e, hl⟩
    · rw [List.getElem?_eq_none (by simpa using hl)] at e
      cases e
  · rw [List.getElem?_set_ne (Ne.symm z)] at e
    exact .inr ⟨z, e⟩
theorem Rep.less {C : Wd} {Hs H Hs' : Hp} {σ : L2.St} {env env' : SE} (r : Rep C Hs H σ env) (e : Ex Hs Hs') (e2 : Ex Hs' H) (l : env'.length = env.length)
    (k : ∀ (i : Nat) (b : Bnd), env'[i]? = some (some b) → (env[i]? = some (some b) ∧ (b.ow = true → ∀ a, σ[i]? = some (some (.ref a)) → ∀ x ∈ ft H b.d a, Hs' x = none)) ∨ ∃ d v, b = .fz d ∧ σ[i]? = some (some v) ∧ Rp C Hs' d v) :
    Rep C Hs' H σ env' ∧ ∀ x, Own H σ env' x → Own H σ env x := by
  have back : ∀ (i : Nat) (b : Bnd), env'[i]? = some (some b) → b.ow = true → env[i]? = some (some b) := fun i b h1 h2 => by
    rcases k i b h1 with ⟨q, _⟩ | ⟨d, v, q, _⟩
    · exact q
    · rw [q] at h2; cases h2
  refine ⟨⟨e2, l.trans r.len, fun i b h1 => ?_, fun i j bi bj a c x e1 e2 e3 e4 e5 e6 e7 e8 => r.sep i j bi bj a c x (back i bi e1 e3) (back j bj e2 e4) e3 e4 e5 e6 e7 e8⟩, fun x ⟨i, b, a, h1, h2, h3, h4⟩ => ⟨i, b, a, back i b h1 h2, h2, h3, h4⟩⟩
  rcases k i b h1 with ⟨q, n⟩ | ⟨d, v, rfl, ev, q⟩
  · obtain ⟨v, ev, h⟩ := r.at_ i b q
    refine ⟨v, ev, ?_⟩
    unfold RB at h ⊢
    by_cases hb : b.ow = true
    · rw [if_pos hb] at h ⊢
      obtain ⟨a, rfl, h⟩ := h
      exact ⟨a, rfl, (h.mono e (fun _ _ => rfl) (n hb a ev)).1⟩
    · rw [if_neg hb] at h ⊢
      exact Rp.mono e _ _ h
  · exact ⟨v, ev, by unfold RB; rw [if_neg (by simp [Bnd.ow])]; exact q⟩
theorem Stp.freeze {C : Wd} {Hs H : Hp} {σ : L2.St} {env : SE} {i : Nat} {d : D} {a : Addr} (r : Rep C Hs H σ env) (e : env[i]? = some (some (.own d))) (ea : σ[i]? = some (some (.ref a))) (h : Held C Hs H d a) :
    Stp C Hs H σ env (uni Hs H (ft H d a)) H σ (env.set i (some (.fz (open_ d)))) ∧ Rp C (uni Hs H (ft H d a)) (open_ d) (.ref a) := by
  have ex := uni_ex (Hs := Hs) (H := H) (A := ft H d a) h.out
  have q : Rp C (uni Hs H (ft H d a)) (open_ d) (.ref a) := TrAt.freeze ex d a h.tr fun x hx o ho => by rw [uni_in hx]; exact ho
  obtain ⟨R, sub⟩ := r.less (env' := env.set i (some (.fz (open_ d)))) ex (uni_le r.ex) (by rw [List.length_set]) fun j b ej => by
    rcases set_at ej with ⟨z, w, _⟩ | ⟨z, w⟩
    · cases w; subst z; exact .inr ⟨_, _, rfl, ea, q⟩
    · refine .inl ⟨w, fun hb c ec x hx => ?_⟩
      obtain ⟨c', ec', hc⟩ := r.held w hb
      rw [ec] at ec'; cases ec'
      rw [uni_out fun (y : x ∈ ft H d a) => z (r.sep j i b _ c a x w e hb rfl ec ea hx y)]
      exact hc.out x hx
  refine ⟨⟨ex, R, fun x o h1 h2 h3 => ⟨h1, ?_, fun z => h3 (sub x z)⟩, fun j d' ej => ?_⟩, q⟩
  · rw [uni_out fun (y : x ∈ ft H d a) => h3 ⟨i, _, a, e, rfl, ea, y⟩]; exact h2
  · rcases set_at ej with ⟨_, w, _⟩ | ⟨_, w⟩
    · cases w
    · exact ⟨rfl, _, w⟩
theorem Stp.forget {C : Wd} {Hs H : Hp} {σ : L2.St} {env : SE} (r : Rep C Hs H σ env) (i : Nat) : Stp C Hs H σ env Hs H σ (env.set i none) := by
  have back : ∀ (j : Nat) (b : Bnd), (env.set i none)[j]? = some (some b) → env[j]? = some (some b) := fun j b ej => by
    rcases set_at ej with ⟨_, w, _⟩ | ⟨_, w⟩
    · cases w
    · exact w
  obtain ⟨R, sub⟩ := r.less (env' := env.set i none) (Ex.refl _) r.ex (by rw [List.length_set]) fun j b ej => by
    refine .inl ⟨back j b ej, fun hb a ea x hx => ?_⟩
    obtain ⟨c, ec, hc⟩ := r.held (back j b ej) hb
    rw [ea] at ec; cases ec
    exact hc.out x hx
  exact ⟨Ex.refl _, R, fun x o h1 h2 h3 => ⟨h1, h2, fun z => h3 (sub x z)⟩, fun j d' ej => ⟨rfl, _, back j _ ej⟩⟩
theorem Stp.freezeT {C : Wd} {Hs H Hs' H' : Hp} {σ σ' : L2.St} {env env' : SE} {d : D} {a : Addr} (s : Stp C Hs H σ env Hs' H' σ' env') (h : Held C Hs' H' d a) (w : ∀ x ∈ ft H' d a, ¬ Own H' σ' env' x ∧ Nw Hs H σ env x) :
    Stp C Hs H σ env (uni Hs' H' (ft H' d a)) H' σ' env' ∧ Rp C (uni Hs' H' (ft H' d a)) (open_ d) (.ref a) := by
  have r := s.rep
  have ex := uni_ex (Hs := Hs') (H := H') (A := ft H' d a) h.out
  have q : Rp C (uni Hs' H' (ft H' d a)) (open_ d) (.ref a) := TrAt.freeze ex d a h.tr fun x hx o ho => by rw [uni_in hx]; exact ho
  obtain ⟨R, sub⟩ := r.less (env' := env') ex (uni_le r.ex) rfl fun j b ej => by
    refine .inl ⟨ej, fun hb c ec x hx => ?_⟩
    obtain ⟨c', ec', hc⟩ := r.held ej hb
    rw [ec] at ec'; cases ec'
    rw [uni_out fun y => (w x y).1 ⟨j, b, c, ej, hb, ec, hx⟩]
    exact hc.out x hx
  refine ⟨⟨s.ex.trans ex, R, fun x o h1 h2 h3 => ?_, s.io⟩, q⟩
  obtain ⟨k1, k2, k3⟩ := s.fr x o h1 h2 h3
  exact ⟨k1, by rw [uni_out fun y => h3 ((w x y).2 o h1 h2)]; exact k2, fun z => k3 (sub x z)⟩
def deref (env : SE) : Val → Option D
  | .fz d => some d
  | .bor i => match env[i]? with
    | some (some b) => if flatD b.d = true then some b.d else none
    | _ => none
  | .fr _ => none
def RdV (C : Wd) (Hs H : Hp) (d : D) (v : V) : Prop := Rp C Hs d v ∨ ∃ a, v = .ref a ∧ OwnAt C Hs H d a
theorem RV.vv {C : Wd} {Hs H Hs' H' : Hp} {σ σ' : L2.St} {env env' : SE} {a : Val} {v : V} {d : D} (h : RV C Hs H σ env Hs' H' σ' env' a v) (n : deref env' a = some d) : VV C Hs' σ' a v := by
  cases a with
  | fz d => exact h
  | bor i => exact h
  | fr d => cases n
theorem RV.vv' {C : Wd} {Hs H Hs' H' : Hp} {σ σ' : L2.St} {env env' : SE} {a : Val} {v : V} (h : RV C Hs H σ env Hs' H' σ' env' a v) (n : ∀ d, a ≠ .fr d) : VV C Hs' σ' a v := by
  cases a with
  | fz d => exact h
  | bor i => exact h
  | fr d => exact absurd rfl (n d)
theorem Rep.deref {C : Wd} {Hs H : Hp} {σ : L2.St} {env : SE} {a : Val} {v : V} {d : D} (r : Rep C Hs H σ env) (h : VV C Hs σ a v) (e : deref env a = some d) : RdV C Hs H d v := by
  cases a with
  | fz d' => cases e; exact .inl h
  | fr d' => cases e
  | bor i =>
    unfold VE.deref at e
    simp only at e
    split at e
    · rename_i b hb
      split at e
      · rename_i fl
        cases e
        obtain ⟨v', e1, q⟩ := r.at_ i b hb
        have h' : σ[i]? = some (some v) := h
        rw [h'] at e1; cases e1
        unfold RB at q
        split at q
        · obtain ⟨a, rfl, o⟩ := q
          exact .inr ⟨a, rfl, o.tr.flat fl⟩
        · exact .inl q
      · cases e
    · cases e
theorem RdV.lst {C : Wd} {Hs H : Hp} {ds : List D} {v : V} (ex : Ex Hs H) (h : RdV C Hs H (.lst ds) v) : ∃ a xs, v = .ref a ∧ H a = some (.lst xs) ∧ RpL C Hs ds xs := by
  rcases h with h | ⟨a, e, xs, h1, h2⟩
  · simp only [Rp] at h
    obtain ⟨a, xs, e, h1, h2⟩ := h
    exact ⟨a, xs, e, ex _ _ h1, h2⟩
  · exact ⟨a, xs, e, h1, h2⟩
theorem RdV.tup {C : Wd} {Hs H : Hp} {ds : List D} {v : V} (ex : Ex Hs H) (h : RdV C Hs H (.tup ds) v) : ∃ a xs, v = .ref a ∧ H a = some (.tup xs) ∧ RpL C Hs ds xs := by
  rcases h with h | ⟨a, e, h⟩
  · simp only [Rp] at h
    obtain ⟨a, xs, e, h1, h2⟩ := h
    exact ⟨a, xs, e, ex _ _ h1, h2⟩
  · exact h.elim
theorem RdV.scr {C : Wd} {Hs H : Hp} {ns : List Int} {v : V} (ex : Ex Hs H) (h : RdV C Hs H (.scr ns) v) : ∃ a, v = .ref a ∧ SqL C.K H a (ns.map V.int) := by
  rcases h with h | ⟨a, e, h⟩
  · simp only [Rp] at h
    obtain ⟨a, e, h1⟩ := h
    exact ⟨a, e, Evl.ex_l ex h1⟩
  · exact h.elim
theorem RdV.int {C : Wd} {Hs H : Hp} {i : Int} {v : V} (h : RdV C Hs H (.int i) v) : v = .int i := by
  rcases h with h | ⟨a, e, h⟩
  · simpa only [Rp] using h
  · exact h.elim
theorem RdV.str {C : Wd} {Hs H : Hp} {i : Str} {v : V} (h : RdV C Hs H (.str i) v) : v = .str i := by
  rcases h with h | ⟨a, e, h⟩
  · simpa only [Rp] using h
  · exact h.elim
theorem RdV.bl {C : Wd} {Hs H : Hp} {i : Bool} {v : V} (h : RdV C Hs H (.bl i) v) : v = .bl i := by
  rcases h with h | ⟨a, e, h⟩
  · simpa only [Rp] using h
  · exact h.elim
theorem RdV.non {C : Wd} {Hs H : Hp} {v : V} (h : RdV C Hs H .non v) : v = .non := by
  rcases h with h | ⟨a, e, h⟩
  · simpa only [Rp] using h
  · exact h.elim
def RVg (C : Wd) (H Hs' H' : Hp) : Val → V → Prop
  | .fz d, v => Rp C Hs' d v
  | .fr d, v => ∃ a, v = .ref a ∧ H a = none ∧ Hs' a = none ∧ OwnAt C Hs' H' d a
  | .bor _, _ => False
theorem RVg.rv {C : Wd} {Hs H Hs1 H1 Hs' H' : Hp} {σ : L2.St} {env env1 : SE} {a : Val} {v : V} (s : Stp C Hs H σ env Hs1 H1 σ env1) (g : Grow Hs1 H1 Hs' H') (h : RVg C H1 Hs' H' a v) : RV C Hs H σ env Hs' H' σ env1 a v := by
  cases a with
  | fz d => exact h
  | bor i => exact h.elim
  | fr d =>
    obtain ⟨a, e, n, n2, o⟩ := h
    have fo := o.tree.2
    have one : ∀ x ∈ ft H' d a, x = a := fun x hx => by rw [fo] at hx; exact List.mem_singleton.mp hx
    refine ⟨a, e, Held.one o n2, fun x hx => ?_⟩
    cases one x hx
    refine ⟨fun z => ?_, fun u h1 h2 => ?_⟩
    · obtain ⟨_, u, hu⟩ := Own.there s.rep ((Own.grow s.rep g a).mp z)
      rw [n] at hu; cases hu
    · by_cases z : Own H σ env a
      · exact z
      · have := (s.fr a u h1 h2 z).1
        rw [n] at this; cases this
theorem Fin.op {C : Wd} {W : WX} {Hs H Hs1 H1 Hs' H' : Hp} {σ : L2.St} {env env1 : SE} {a : Val} {v : V} {Q : VK} (fin : Fin C W (RVx C) Hs H σ env Q (.ok a env1)) (s : Stp C Hs H σ env Hs1 H1 σ env1) (g : Grow Hs1 H1 Hs' H')
    (h : RVg C H1 Hs' H' a v) : Q v H' := fin v H' Hs' (s.trans (Stp.grow s.rep g)) (h.rv s g)
section
variable {X : Cx} {W : WX} {e a b c : Expr} {es : List Expr} {p q : M Val} {pos : Pos}
def xc (d : D) : M Val := fun env => some (.ok (.fz d) env)
theorem x_c {v : V} {d : D} (h : PE X e (tC v)) (hd : ∀ H, Rp (wdOf X) H d v) : PE X e (tX (wdOf X) W (xc d)) := pe_weak h fun σ H Q ⟨env, Hs, r, rp, e, fin⟩ => by
  cases e
  exact fin v H Hs (Stp.refl rp) (hd Hs)
theorem x_int {i : Int} {j} : PE X (.Constant (.int i) j pos) (tX (wdOf X) W (xc (.int i))) := x_c pe_int fun _ => by simp only [Rp]
theorem x_bl {i : Bool} {j} : PE X (.Constant (.bool i) j pos) (tX (wdOf X) W (xc (.bl i))) := x_c pe_bl fun _ => by simp only [Rp]
theorem x_non {j} : PE X (.Constant .none j pos) (tX (wdOf X) W (xc .non)) := x_c pe_non fun _ => by simp only [Rp]
theorem x_str {i : Str} {j} : PE X (.Constant (.str i) j pos) (tX (wdOf X) W (xc (.str i))) := x_c pe_str fun _ => by simp only [Rp]
def xv (i : Nat) : M Val := fun env => match env[i]? with
  | some (some (.fz d)) => some (.ok (.fz d) env)
  | some (some _) => some (.ok (.bor i) env)
  | _ => none
def xf (i : Nat) : M Val := fun env => match env[i]? with
  | some (some (.fz d)) => some (.ok (.fz d) env)
  | some (some (.own d)) => some (.ok (.fz (open_ d)) (env.set i (some (.fz (open_ d)))))
  | _ => none
def xm (i : Nat) : M Val := fun env => match env[i]? with
  | some (some (.fz d)) => some (.ok (.fz d) env)
  | some (some (.own d)) => some (.ok (.fr d) (env.set i none))
  | _ => none
theorem Rep.fz {C : Wd} {Hs H : Hp} {σ : L2.St} {env : SE} {i : Nat} {d : D} (r : Rep C Hs H σ env) (e : env[i]? = some (some (.fz d))) : ∃ v, σ[i]? = some (some v) ∧ Rp C Hs d v := by
  obtain ⟨v, ev, q⟩ := r.at_ i _ e
  unfold RB at q
  rw [if_neg (by simp [Bnd.ow])] at q
  exact ⟨v, ev, q⟩
theorem x_v {i : Nat} (h : PE X e (tVar i)) : PE X e (tX (wdOf X) W (xv i)) := pe_weak h fun σ H Q ⟨env, Hs, r, rp, e, fin⟩ => by
  unfold xv at e
  split at e
  · rename_i d hd
    cases e
    obtain ⟨v, ev, q⟩ := rp.fz hd
    exact ⟨v, ev, fin v H Hs (Stp.refl rp) q⟩
  · rename_i b hd
    cases e
    obtain ⟨v, ev, q⟩ := rp.at_ i _ hd
    exact ⟨v, ev, fin v H Hs (Stp.refl rp) ev⟩
  · cases e
theorem x_f {i : Nat} (h : PE X e (tVar i)) : PE X e (tX (wdOf X) W (xf i)) := pe_weak h fun σ H Q ⟨env, Hs, r, rp, e, fin⟩ => by
  unfold xf at e
  split at e
  · rename_i d hd
    cases e
    obtain ⟨v, ev, q⟩ := rp.fz hd
    exact ⟨v, ev, fin v H Hs (Stp.refl rp) q⟩
  · rename_i d hd
    cases e
    obtain ⟨a, ev, o⟩ := rp.held hd rfl
    obtain ⟨s, q⟩ := Stp.freeze rp hd ev o
    exact ⟨_, ev, fin _ H _ s q⟩
  · cases e
theorem x_m {i : Nat} (h : PE X e (tVar i)) : PE X e (tX (wdOf X) W (xm i)) := pe_weak h fun σ H Q ⟨env, Hs, r, rp, e, fin⟩ => by
  unfold xm at e
  split at e
  · rename_i d hd
    cases e
    obtain ⟨v, ev, q⟩ := rp.fz hd
    exact ⟨v, ev, fin v H Hs (Stp.refl rp) q⟩
  · rename_i d hd
    cases e
    obtain ⟨a, ev, o⟩ := rp.held hd rfl
    refine ⟨_, ev, fin _ H _ (Stp.forget rp i) ⟨a, rfl, o, fun x hx => ⟨fun ⟨j, b, c, e1, e2, e3, e4⟩ => ?_, fun _ _ _ => ⟨i, _, a, hd, rfl, ev, hx⟩⟩⟩⟩
    rcases set_at e1 with ⟨_, w, _⟩ | ⟨hne, w⟩
    · cases w
    · exact hne (rp.sep j i b _ c a x w hd e2 rfl e3 ev e4 hx)
  · cases e
def frz (p : M Val) : M Val := p.bind fun v => match v with
  | .fr d => M.pure (.fz (open_ d))
  | .fz d => M.pure (.fz d)
  | .bor i => M.pure (.bor i)
theorem tX_frz {C : Wd} {σ : L2.St} {H : Hp} {Q : VK} (h : Tm C W (RVx C) (frz p) σ H Q) : tX C W p σ H Q := by
  obtain ⟨env, Hs, r1, rp, e, fin⟩ := h
  refine Tm.bindAt rp e fin fun a env1 v H1 Hs1 hp st rv e => ?_
  cases a with
  | fz d => cases e; exact fin v H1 Hs1 st rv
  | bor i => cases e; exact fin v H1 Hs1 st rv
  | fr d =>
    cases e
    obtain ⟨x, rfl, o, w⟩ := rv
    obtain ⟨s, q⟩ := st.freezeT o w
    exact fin _ H1 _ s q
theorem x_frz (h : PE X e (tX (wdOf X) W p)) : PE X e (tX (wdOf X) W (frz p)) := pe_weak h fun _ _ _ q => tX_frz q
def x2 (g : D → D → Option Val) (p q : M Val) : M Val := p.bind fun a => q.bind fun b => fun env =>
  (deref env a).bind fun da => (deref env b).bind fun db => (g da db).map fun v => .ok v env
def OpT (C : Wd) (r : R2) (g : D → D → Option Val) : Prop := ∀ (Hs H : Hp) (x y : V) (dx dy : D) (val : Val) (Q : VK), Ex Hs H → RdV C Hs H dx x → RdV C Hs H dy y → g dx dy = some val →
  (∀ v H' Hs', Grow Hs H Hs' H' → RVg C H Hs' H' val v → Q v H') → r x y H Q
theorem tOp_x2 {C : Wd} {r : R2} {g : D → D → Option Val} {σ : L2.St} {H : Hp} {Q : VK} (hg : OpT C r g) (h : Tm C W (RVx C) (x2 g p q) σ H Q) : tOp r (tX C W p) (tX C W q) σ H Q := by
  obtain ⟨env, Hs, r1, rp, e, fin⟩ := h
  refine Tm.bindAt rp e fin fun va env1 v H1 Hs1 hp st rv e1 => ?_
  refine Tm.bindAt st.rep e1 (fin.later st fun _ _ _ _ _ s2 rv => rv.later st) fun vb env2 u H2 Hs2 hq st2 rv2 e2 => ?_
  have fin2 := fin
  cases da : deref env2 va with
  | none => rw [da] at e2; cases e2
  | some x =>
    rw [da] at e2
    cases db : deref env2 vb with
    | none => rw [Option.bind_some, db] at e2; cases e2
    | some y =>
      rw [Option.bind_some, db, Option.bind_some] at e2
      cases gv : g x y with
      | none => rw [gv] at e2; cases e2
      | some val =>
        rw [gv] at e2
        cases e2
        have v1 : VV C Hs2 σ va v := by
          cases va with
          | fr d => cases da
          | fz d => exact Rp.mono st2.ex _ _ rv
          | bor i => exact rv
        have v2 : VV C Hs2 σ vb u := rv2.vv db
        exact hg Hs2 H2 v u x y val Q st2.rep.ex (st2.rep.deref v1 da) (st2.rep.deref v2 db) gv fun v' H' Hs' gr rg => fin.op (st.trans st2) gr rg
theorem x_op {op : Operator} {r : R2} {g : D → D → Option Val} (ho : OpR X (binaryOp op) r) (hg : OpT (wdOf X) r g) (ha : PE X a (tX (wdOf X) W p)) (hb : PE X b (tX (wdOf X) W q)) : PE X (.BinOp a op b pos) (tX (wdOf X) W (x2 g p q)) :=
  pe_weak (pe_op ho ha hb) fun _ _ _ h => tOp_x2 hg h
theorem x_cmp {op : CmpOp} {r : R2} {g : D → D → Option Val} (ho : OpR X (compareOp op) r) (hg : OpT (wdOf X) r g) (ha : PE X a (tX (wdOf X) W p)) (hb : PE X b (tX (wdOf X) W q)) (hm : behindInMarks op b = false) : PE X (.Compare a [op] [b] pos) (tX (wdOf X) W (x2 g p q)) :=
  pe_weak (pe_cmpR ho ha hb hm) fun _ _ _ h => tOp_x2 hg h
def bt (p : M Val) : M Bool := p.bind fun v => match v with
  | .fz (.bl b) => M.pure b
  | _ => fun _ => none
theorem tX_bt {C : Wd} {σ : L2.St} {H : Hp} {Q : Bool → Hp → Prop} (h : Tm C W RBx (bt p) σ H Q) : tX C W p σ H fun x H' => ∃ k, x = .bl k ∧ Q k H' := by
  obtain ⟨env, Hs, r1, rp, e, fin⟩ := h
  refine Tm.bindAt rp e fin fun va env1 v H1 Hs1 hp st rv e1 => ?_
  split at e1
  · rename_i b
    cases e1
    have ev : v = .bl b := by simpa [RV, Rp] using rv
    exact ⟨b, ev, fin b H1 Hs1 st rfl⟩
  · cases e1
theorem b_cmp {op : CmpOp} {r : R2} {g : D → D → Option Val} (ho : OpR X (compareOp op) r) (hg : OpT (wdOf X) r g) (ha : PE X a (tX (wdOf X) W p)) (hb : PE X b (tX (wdOf X) W q)) (hm : behindInMarks op b = false) : PT X (.Compare a [op] [b] pos) (tT (wdOf X) W (bt (x2 g p q))) :=
  pt_weak (pt_cmpR ho ha hb hm) fun σ H Q h => tOp_x2 hg (tX_bt h)
theorem b_val (h : PE X e (tX (wdOf X) W p)) (he : ∀ whole, isTrue e X.env whole = (do let v ← whole; standAt e.pos; holding [v] (truthy v)) := by intro _; rfl) : PT X e (tT (wdOf X) W (bt p)) :=
  pt_weak (pt_val h he) fun σ H Q h => tX_bt h
def bAnd (p q : M Bool) : M Bool := p.bind fun c => if c then q else M.pure false
def bOr (p q : M Bool) : M Bool := p.bind fun c => if c then M.pure true else q
def bNot (p : M Bool) : M Bool := p.bind fun c => M.pure (!c)
variable {s t : M Bool} {rest : List Expr}
theorem laterB {C : Wd} {Hs H Hs1 H1 : Hp} {σ : L2.St} {env env1 : SE} {Q : Bool → Hp → Prop} {r : Out Bool} (st : Stp C Hs H σ env Hs1 H1 σ env1) (fin : Fin C W RBx Hs H σ env Q r) : Fin C W RBx Hs1 H1 σ env1 Q r := fin.later st fun _ _ _ _ _ _ q => q
theorem laterX {C : Wd} {Hs H Hs1 H1 : Hp} {σ : L2.St} {env env1 : SE} {Q : VK} {r : Out Val} (st : Stp C Hs H σ env Hs1 H1 σ env1) (fin : Fin C W (RVx C) Hs H σ env Q r) : Fin C W (RVx C) Hs1 H1 σ env1 Q r := fin.later st fun _ _ _ _ _ _ q => q.later st
theorem laterA {C : Wd} {Hs H Hs1 H1 : Hp} {σ : L2.St} {env env1 : SE} {Q : List V → Hp → Prop} {r : Out (List Val)} (st : Stp C Hs H σ env Hs1 H1 σ env1) (fin : Fin C W (RAx C) Hs H σ env Q r) : Fin C W (RAx C) Hs1 H1 σ env1 Q r := fin.later st fun _ _ _ _ _ _ q => q
theorem b_one {op} (h : PT X a (tT (wdOf X) W s)) (hop : op = .And ∨ op = .Or) : PW X (.BoolOp op [a] pos) (tT (wdOf X) W s) := by
  rcases hop with rfl | rfl
  · exact pw_and1 h
  · exact pw_or1 h
theorem b_and (ha : PT X a (tT (wdOf X) W s)) (hb : PW X (.BoolOp .And (b :: rest) pos) (tT (wdOf X) W t)) : PW X (.BoolOp .And (a :: b :: rest) pos) (tT (wdOf X) W (bAnd s t)) :=
  pw_weak (pw_and ha hb) fun σ H Q ⟨env, Hs, r1, rp, e, fin⟩ => by
    refine Tm.bindAt rp e fin fun c env1 v H1 Hs1 hp st rv e1 => ?_
    cases (show c = v from rv)
    cases c with
    | true => exact ⟨env1, Hs1, r1, st.rep, e1, laterB st fin⟩
    | false => cases e1; exact fin false H1 Hs1 st rfl
theorem b_or (ha : PT X a (tT (wdOf X) W s)) (hb : PW X (.BoolOp .Or (b :: rest) pos) (tT (wdOf X) W t)) : PW X (.BoolOp .Or (a :: b :: rest) pos) (tT (wdOf X) W (bOr s t)) :=
  pw_weak (pw_or ha hb) fun σ H Q ⟨env, Hs, r1, rp, e, fin⟩ => by
    refine Tm.bindAt rp e fin fun c env1 v H1 Hs1 hp st rv e1 => ?_
    cases (show c = v from rv)
    cases c with
    | false => exact ⟨env1, Hs1, r1, st.rep, e1, laterB st fin⟩
    | true => cases e1; exact fin true H1 Hs1 st rfl
theorem b_not (ha : PT X a (tT (wdOf X) W s)) : PT X (.UnaryOp .Not a pos) (tT (wdOf X) W (bNot s)) :=
  pt_weak (pt_not ha) fun σ H Q ⟨env, Hs, r1, rp, e, fin⟩ => by
    refine Tm.bindAt rp e fin fun c env1 v H1 Hs1 hp st rv e1 => ?_
    cases (show c = v from rv)
    cases e1
    exact fin _ H1 Hs1 st rfl
def xAnd (p q : M Val) : M Val := p.bind fun v => match v with
  | .fz (.bl true) => q
  | .fz (.bl false) => M.pure (.fz (.bl false))
  | _ => fun _ => none
def xOr (p q : M Val) : M Val := p.bind fun v => match v with
  | .fz (.bl true) => M.pure (.fz (.bl true))
  | .fz (.bl false) => q
  | _ => fun _ => none
def xNot (p : M Val) : M Val := p.bind fun v => match v with
  | .fz (.bl b) => M.pure (.fz (.bl (!b)))
  | _ => fun _ => none
theorem x_one {op} (h : PE X a (tX (wdOf X) W p)) : PE X (.BoolOp op [a] pos) (tX (wdOf X) W p) := pe_one h
theorem x_and (ha : PE X a (tX (wdOf X) W p)) (hb : PE X (.BoolOp .And (b :: rest) pos) (tX (wdOf X) W q)) : PE X (.BoolOp .And (a :: b :: rest) pos) (tX (wdOf X) W (xAnd p q)) :=
  pe_weak (pe_and ha hb) fun σ H Q ⟨env, Hs, r1, rp, e, fin⟩ => by
    refine Tm.bindAt rp e fin fun va env1 v H1 Hs1 hp st rv e1 => ?_
    split at e1
    · have ev : v = .bl true := by simpa [RV, Rp] using rv
      exact ⟨true, ev, ⟨env1, Hs1, r1, st.rep, e1, laterX st fin⟩⟩
    · have ev : v = .bl false := by simpa [RV, Rp] using rv
      cases e1
      exact ⟨false, ev, fin _ H1 Hs1 st (by simp [RV, Rp])⟩
    · cases e1
theorem x_or (ha : PE X a (tX (wdOf X) W p)) (hb : PE X (.BoolOp .Or (b :: rest) pos) (tX (wdOf X) W q)) : PE X (.BoolOp .Or (a :: b :: rest) pos) (tX (wdOf X) W (xOr p q)) :=
  pe_weak (pe_or ha hb) fun σ H Q ⟨env, Hs, r1, rp, e, fin⟩ => by
    refine Tm.bindAt rp e fin fun va env1 v H1 Hs1 hp st rv e1 => ?_
    split at e1
    · have ev : v = .bl true := by simpa [RV, Rp] using rv
      cases e1
      exact ⟨true, ev, fin _ H1 Hs1 st (by simp [RV, Rp])⟩
    · have ev : v = .bl false := by simpa [RV, Rp] using rv
      exact ⟨false, ev, ⟨env1, Hs1, r1, st.rep, e1, laterX st fin⟩⟩
    · cases e1
theorem x_not (ha : PE X a (tX (wdOf X) W p)) : PE X (.UnaryOp .Not a pos) (tX (wdOf X) W (xNot p)) :=
  pe_weak (pe_not ha) fun σ H Q ⟨env, Hs, r1, rp, e, fin⟩ => by
    refine Tm.bindAt rp e fin fun va env1 v H1 Hs1 hp st rv e1 => ?_
    split at e1
    · rename_i b
      have ev : v = .bl b := by simpa [RV, Rp] using rv
      cases e1
      exact ⟨b, ev, fin _ H1 Hs1 st (by simp [RV, Rp])⟩
    · cases e1
def xIf (c : M Bool) (p q : M Val) : M Val := c.bind fun b => if b then p else q
theorem x_if (hc : PT X c (tT (wdOf X) W s)) (ha : PE X a (tX (wdOf X) W p)) (hb : PE X b (tX (wdOf X) W q)) : PE X (.IfExp c a b pos) (tX (wdOf X) W (xIf s p q)) :=
  pe_weak (pe_ifExp hc ha hb) fun σ H Q ⟨env, Hs, r1, rp, e, fin⟩ => by
    refine Tm.bindAt rp e fin fun k env1 v H1 Hs1 hp st rv e1 => ?_
    cases (show k = v from rv)
    cases k with
    | true => exact ⟨env1, Hs1, r1, st.rep, e1, laterX st fin⟩
    | false => exact ⟨env1, Hs1, r1, st.rep, e1, laterX st fin⟩
def aNil : M (List Val) := M.pure []
def aCons (p : M Val) (q : M (List Val)) : M (List Val) := p.bind fun a => match a with
  | .fr _ => fun _ => none
  | .fz d => q.bind fun r => M.pure (.fz d :: r)
  | .bor i => q.bind fun r => M.pure (.bor i :: r)
variable {pa : M (List Val)}
theorem a_nil : PA X [] (tA (wdOf X) W aNil) := pa_weak pa_nil fun σ H Q ⟨env, Hs, r1, rp, e, fin⟩ => by
  cases e
  exact fin [] H Hs (Stp.refl rp) (by simp only [RVs])
end
end VE
namespace VE
open PySem PySem.Spec PyProof.Rows L2
section
variable {X : Cx} {W : WX} {e a b c : Expr} {es : List Expr} {p q : M Val} {pa : M (List Val)} {pos : Pos}
theorem a_cons (ha : PE X e (tX (wdOf X) W p)) (hr : PA X es (tA (wdOf X) W pa)) (hs : starEach (e :: es) X.env = (false, eval e X.env) :: starEach es X.env := by rfl) : PA X (e :: es) (tA (wdOf X) W (aCons p pa)) :=
  pa_weak (pa_cons ha hr hs) fun σ H Q ⟨env, Hs, r1, rp, e, fin⟩ => by
    refine Tm.bindAt rp e fin fun va env1 v H1 Hs1 hp st rv e1 => ?_
    cases va with
    | fr d => cases e1
    | fz d =>
      refine Tm.bindAt st.rep e1 (laterA st fin) fun vs env2 us H2 Hs2 hq st2 rv2 e2 => ?_
      cases e2
      exact fin _ H2 Hs2 (st.trans st2) ⟨_, _, rfl, Rp.mono st2.ex _ _ rv, rv2⟩
    | bor i =>
      refine Tm.bindAt st.rep e1 (laterA st fin) fun vs env2 us H2 Hs2 hq st2 rv2 e2 => ?_
      cases e2
      exact fin _ H2 Hs2 (st.trans st2) ⟨_, _, rfl, rv, rv2⟩
def fzs : List Val → Option (List D)
  | [] => some []
  | .fz d :: r => (fzs r).map (d :: ·)
  | _ :: _ => none
theorem RVs.fzs {C : Wd} {Hs : Hp} {σ : L2.St} : ∀ {l : List Val} {vs : List V} {ds : List D}, RVs C Hs σ l vs → fzs l = some ds → RpL C Hs ds vs
  | [], vs, ds, h, e => by cases e; cases h; exact RpL.nil
  | .fz d :: r, vs, ds, ⟨v, t, e1, h1, h2⟩, e => by
    unfold VE.fzs at e
    cases e2 : VE.fzs r with
    | none => rw [e2] at e; cases e
    | some ds' =>
      rw [e2] at e
      cases e
      subst e1
      exact RpL.cons h1 (RVs.fzs h2 e2)
  | .fr d :: r, vs, ds, h, e => by cases e
  | .bor d :: r, vs, ds, h, e => by cases e
theorem size_ok {n : Nat} (h : n ≤ 100000) : n ≤ sizeLine := Nat.le_trans h (by decide)
def xTup (pa : M (List Val)) : M Val := pa.bind fun vs env => (fzs vs).bind fun ds => if ds.length ≤ 100000 then some (.ok (.fz (.tup ds)) env) else none
def xLst (pa : M (List Val)) : M Val := pa.bind fun vs env => (fzs vs).bind fun ds => if ds.length ≤ 100000 then some (.ok (.fr (.lst ds)) env) else none
theorem x_tup {k} (ha : PA X es (tA (wdOf X) W pa)) : PE X (.Tuple es k pos) (tX (wdOf X) W (xTup pa)) :=
  pe_weak (pe_tup ha) fun σ H Q ⟨env, Hs, r1, rp, e, fin⟩ => by
    refine Tm.bindAt rp e fin fun vs env1 us H1 Hs1 hp st rv e1 => ?_
    cases hf : fzs vs with
    | none => rw [hf] at e1; cases e1
    | some ds =>
      rw [hf, Option.bind_some] at e1
      split at e1
      · rename_i hl
        cases e1
        have rl := RVs.fzs rv hf
        refine ⟨size_ok (by rw [rl.length]; exact hl), fun p hp => ?_⟩
        have g := Grow.newF (o := HO.tup us) st.rep.ex hp
        refine fin.op st g ?_
        show Rp _ _ (.tup ds) _
        simp only [Rp]
        exact ⟨p, us, rfl, upd_same, RpL.mono g.ex _ _ rl⟩
      · cases e1
theorem x_lst (ha : PA X es (tA (wdOf X) W pa)) : PE X (.List es pos) (tX (wdOf X) W (xLst pa)) :=
  pe_weak (pe_lst ha) fun σ H Q ⟨env, Hs, r1, rp, e, fin⟩ => by
    refine Tm.bindAt rp e fin fun vs env1 us H1 Hs1 hp st rv e1 => ?_
    cases hf : fzs vs with
    | none => rw [hf] at e1; cases e1
    | some ds =>
      rw [hf, Option.bind_some] at e1
      split at e1
      · rename_i hl
        cases e1
        have rl := RVs.fzs rv hf
        refine ⟨size_ok (by rw [rl.length]; exact hl), fun p hp => ?_⟩
        have g := Grow.new (o := HO.lst us) st.rep.ex hp
        exact fin.op st g ⟨p, rfl, hp, xBack st.rep.ex hp, us, upd_same, rl⟩
      · cases e1
def derefs (env : SE) : List Val → Option (List D)
  | [] => some []
  | a :: r => (deref env a).bind fun d => (derefs env r).map (d :: ·)
def RdL (C : Wd) (Hs H : Hp) : List D → List V → Prop
  | [], vs => vs = []
  | d :: ds, vs => ∃ v r, vs = v :: r ∧ RdV C Hs H d v ∧ RdL C Hs H ds r
theorem Rep.derefs {C : Wd} {Hs H : Hp} {σ : L2.St} {env : SE} (r : Rep C Hs H σ env) : ∀ {l : List Val} {vs : List V} {ds : List D}, RVs C Hs σ l vs → derefs env l = some ds → RdL C Hs H ds vs
  | [], vs, ds, h, e => by cases e; exact h
  | a :: t, vs, ds, ⟨v, u, e1, h1, h2⟩, e => by
    unfold VE.derefs at e
    cases e3 : VE.deref env a with
    | none => rw [e3] at e; cases e
    | some d =>
      rw [e3, Option.bind_some] at e
      cases e2 : VE.derefs env t with
      | none => rw [e2] at e; cases e
      | some ds' =>
        rw [e2] at e
        cases e
        exact ⟨v, u, e1, r.deref h1 e3, r.derefs h2 e2⟩
def xB (g : List D → Option Val) (pa : M (List Val)) : M Val := pa.bind fun vs env => (derefs env vs).bind fun ds => (g ds).map fun v => .ok v env
def CallT (C : Wd) (r : List V → Hp → VK → Prop) (g : List D → Option Val) : Prop := ∀ (Hs H : Hp) (xs : List V) (ds : List D) (val : Val) (Q : VK), Ex Hs H → RdL C Hs H ds xs → g ds = some val →
  (∀ v H' Hs', Grow Hs H Hs' H' → RVg C H Hs' H' val v → Q v H') → r xs H Q
theorem tCB_xB {C : Wd} {r : List V → Hp → VK → Prop} {g : List D → Option Val} {σ : L2.St} {H : Hp} {Q : VK} (hg : CallT C r g) (h : Tm C W (RVx C) (xB g pa) σ H Q) : tCB r (tA C W pa) σ H Q := by
  obtain ⟨env, Hs, r1, rp, e, fin⟩ := h
  refine Tm.bindAt rp e fin fun vs env1 us H1 Hs1 hp st rv e1 => ?_
  cases hd : derefs env1 vs with
  | none => rw [hd] at e1; cases e1
  | some ds =>
    rw [hd, Option.bind_some] at e1
    cases gv : g ds with
    | none => rw [gv] at e1; cases e1
    | some val =>
      rw [gv] at e1
      cases e1
      exact hg Hs1 H1 us ds val Q st.rep.ex (st.rep.derefs rv hd) gv fun v H' Hs' gr rg => fin.op st gr rg
theorem x_B {r : List V → Hp → VK → Prop} {g : List D → Option Val} (h : PE X e (tCB r (tA (wdOf X) W pa))) (hT : CallT (wdOf X) r g) : PE X e (tX (wdOf X) W (xB g pa)) := pe_weak h fun _ _ _ q => tCB_xB hT q
theorem x_ix {r : R2} {g : D → D → Option Val} (hr : IxR X r) (hg : OpT (wdOf X) r g) (ha : PE X a (tX (wdOf X) W p)) (hb : PE X b (tX (wdOf X) W q)) (hs : PlainIx b) : PE X (.Subscript a b pos) (tX (wdOf X) W (x2 g p q)) :=
  pe_weak (pe_ix hr ha hb hs) fun _ _ _ h => tOp_x2 hg h
def oNone : M (Option Int) := M.pure none
def oSome (p : M Val) : M (Option Int) := p.bind fun v => match v with
  | .fz (.int i) => M.pure (some i)
  | _ => fun _ => none
abbrev ROx : R0 (Option Int) (Option Int) := fun _ _ _ _ _ _ _ a v => a = v
def tO (C : Wd) (W : WX) (p : M (Option Int)) : TO := Tm C W ROx p
theorem po_weak {e : Option Expr} {t t' : TO} (h : PO X e t) (k : ∀ σ H Q, t' σ H Q → t σ H Q) : PO X e t' := ⟨fun pins s σ H Q I q => h.run pins s σ H Q I (k σ H Q q)⟩
theorem o_none : PO X none (tO (wdOf X) W oNone) := po_weak po_none fun σ H Q ⟨env, Hs, r1, rp, e, fin⟩ => by
  cases e
  exact fin none H Hs (Stp.refl rp) rfl
theorem o_some (h : PE X e (tX (wdOf X) W p)) : PO X (some e) (tO (wdOf X) W (oSome p)) := po_weak (po_some h) fun σ H Q ⟨env, Hs, r1, rp, e, fin⟩ => by
  refine Tm.bindAt rp e fin fun va env1 v H1 Hs1 hp st rv e1 => ?_
  split at e1
  · rename_i i
    cases e1
    exact ⟨i, by simpa [RV, Rp] using rv, fin _ H1 Hs1 st rfl⟩
  · cases e1
def xSl (g : D → Option Int → Option Int → Option Val) (p : M Val) (l h : M (Option Int)) : M Val := p.bind fun a => l.bind fun lo => h.bind fun hi => fun env => (deref env a).bind fun d => (g d lo hi).map fun v => .ok v env
def SlT (C : Wd) (r : V → Option Int → Option Int → Hp → VK → Prop) (g : D → Option Int → Option Int → Option Val) : Prop := ∀ (Hs H : Hp) (x : V) (d : D) (lo hi : Option Int) (val : Val) (Q : VK), Ex Hs H → RdV C Hs H d x → g d lo hi = some val →
  (∀ v H' Hs', Grow Hs H Hs' H' → RVg C H Hs' H' val v → Q v H') → r x lo hi H Q
theorem x_slice {r : V → Option Int → Option Int → Hp → VK → Prop} {g : D → Option Int → Option Int → Option Val} {lo hi : Option Expr} {pl ph : M (Option Int)} {p2 : Pos} (hr : SlR X r) (hg : SlT (wdOf X) r g) (ha : PE X e (tX (wdOf X) W p)) (hl : PO X lo (tO (wdOf X) W pl)) (hh : PO X hi (tO (wdOf X) W ph)) :
    PE X (.Subscript e (.Slice lo hi none p2) pos) (tX (wdOf X) W (xSl g p pl ph)) := pe_weak (pe_slice hr ha hl hh) fun σ H Q ⟨env, Hs, r1, rp, e, fin⟩ => by
  refine Tm.bindAt rp e fin fun va env1 v H1 Hs1 hp st rv e1 => ?_
  refine Tm.bindAt st.rep e1 (laterX st fin) fun l env2 l' H2 Hs2 hq st2 rl e2 => ?_
  cases (show l = l' from rl)
  have st12 := st.trans st2
  refine Tm.bindAt st12.rep e2 (laterX st12 fin) fun h env3 h' H3 Hs3 hq st3 rh e3 => ?_
  cases (show h = h' from rh)
  have st13 := st12.trans st3
  cases hd : deref env3 va with
  | none => rw [hd] at e3; cases e3
  | some d =>
    rw [hd, Option.bind_some] at e3
    cases gv : g d l h with
    | none => rw [gv] at e3; cases e3
    | some val =>
      rw [gv] at e3
      cases e3
      have v1 : VV (wdOf X) Hs3 σ va v := by
        cases va with
        | fr d => cases hd
        | fz d => exact Rp.mono (st2.ex.trans st3.ex) _ _ rv
        | bor i => exact rv
      exact hg Hs3 H3 v d l h val Q st13.rep.ex (st13.rep.deref v1 hd) gv fun v' H' Hs' gr rg => fin.op st13 gr rg
end
inductive SOut where
  | nx (e : SE)
  | rt (v : Val) (e : SE)
  | bk (e : SE)
  | ct (e : SE)
  | exc (c : Str) (d : D) (e : SE)
abbrev SP := SE → Option SOut
def FinS (C : Wd) (W : WX) (Hs H : Hp) (σ : L2.St) (env : SE) (D : Ends) : SOut → Prop
  | .nx e => ∀ σ' H' Hs', Stp C Hs H σ env Hs' H' σ' e → D.nx σ' H'
  | .bk e => ∀ σ' H' Hs', Stp C Hs H σ env Hs' H' σ' e → D.bk σ' H'
  | .ct e => ∀ σ' H' Hs', Stp C Hs H σ env Hs' H' σ' e → D.ct σ' H'
  | .rt v e => ∀ x σ' H' Hs', Stp C Hs H σ env Hs' H' σ' e → RV C Hs H σ env Hs' H' σ' e v x → D.rt x H'
  | .exc c d e => ∀ cls od σ' H' Hs', Stp C Hs H σ env Hs' H' σ' e → ExR C Hs' c d cls od → W cls od σ' H'
def tS (C : Wd) (W : WX) (p : SP) : TS := fun D σ H => ∃ env Hs r, Rep C Hs H σ env ∧ p env = some r ∧ FinS C W Hs H σ env D r
theorem FinS.later {C : Wd} {W : WX} {Hs H Hs1 H1 : Hp} {σ σ1 : L2.St} {env env1 : SE} {D : Ends} {r : SOut} (st : Stp C Hs H σ env Hs1 H1 σ1 env1) (fin : FinS C W Hs H σ env D r) : FinS C W Hs1 H1 σ1 env1 D r := by
  cases r with
  | nx e => exact fun σ' H' Hs' s2 => fin σ' H' Hs' (st.trans s2)
  | bk e => exact fun σ' H' Hs' s2 => fin σ' H' Hs' (st.trans s2)
  | ct e => exact fun σ' H' Hs' s2 => fin σ' H' Hs' (st.trans s2)
  | rt v e => exact fun x σ' H' Hs' s2 rv => fin x σ' H' Hs' (st.trans s2) (rv.later st)
  | exc c d e => exact fun cls od σ' H' Hs' s2 x => fin cls od σ' H' Hs' (st.trans s2) x
def sWith {α : Type} (p : M α) (f : α → SP) : SP := fun env => match p env with
  | some (.ok a e) => f a e
  | some (.exc c d e) => some (.exc c d e)
  | none => none
theorem Tm.with {α β : Type} {C : Wd} {W : WX} {R : R0 α β} {p : M α} {f : α → SP} {σ : L2.St} {H : Hp} {D : Ends} {Q' : β → Hp → Prop} {Hs : Hp} {env : SE} {r : SOut} (rp : Rep C Hs H σ env) (e : (sWith p f) env = some r) (fin : FinS C W Hs H σ env D r)
    (k : ∀ a env1 v H1 Hs1, p env = some (.ok a env1) → Stp C Hs H σ env Hs1 H1 σ env1 → R Hs H σ env Hs1 H1 env1 a v → f a env1 = some r → Q' v H1) : Tm C W R p σ H Q' := by
  unfold sWith at e
  cases hp : p env with
  | none => rw [hp] at e; cases e
  | some o =>
    rw [hp] at e
    cases o with
    | ok a env1 => exact ⟨env, Hs, _, rp, hp, fun v H1 Hs1 st rv => k a env1 v H1 Hs1 hp st rv e⟩
    | exc c d env1 => cases e; exact ⟨env, Hs, _, rp, hp, fun cls od H' Hs' s x => fin cls od σ H' Hs' s x⟩
section
variable {X : Cx} {W : WX} {e a b c : Expr} {es : List Expr} {p q : M Val} {pa : M (List Val)} {pos : Pos} {st : Stmt} {rest sts sts2 : List Stmt} {s t : SP} {tb : M Bool}
def sNil : SP := fun env => some (.nx env)
def sSeq (s t : SP) : SP := fun env => match s env with
  | some (.nx e) => t e
  | r => r
theorem s_nil : PSs X [] (tS (wdOf X) W sNil) := pss_weak pss_nil fun D σ H ⟨env, Hs, r1, rp, e, fin⟩ => by
  cases e
  exact fin σ H Hs (Stp.refl rp)
theorem s_cons (h1 : PS X st (tS (wdOf X) W s)) (h2 : PSs X rest (tS (wdOf X) W t)) : PSs X (st :: rest) (tS (wdOf X) W (sSeq s t)) :=
  pss_weak (pss_cons h1 h2) fun D σ H ⟨env, Hs, r1, rp, e, fin⟩ => by
    unfold sSeq at e
    cases hs : s env with
    | none => rw [hs] at e; cases e
    | some o =>
      rw [hs] at e
      refine ⟨env, Hs, o, rp, hs, ?_⟩
      cases o with
      | nx e1 => exact fun σ' H' Hs' s2 => ⟨e1, Hs', r1, s2.rep, e, fin.later s2⟩
      | rt v e1 => cases e; exact fin
      | bk e1 => cases e; exact fin
      | ct e1 => cases e; exact fin
      | exc c d e1 => cases e; exact fin
theorem s_one (h1 : PS X st (tS (wdOf X) W s)) : PSs X [st] (tS (wdOf X) W s) := pss_one h1
theorem s_pass : PS X (.Pass pos) (tS (wdOf X) W sNil) := ps_weak ps_pass fun D σ H ⟨env, Hs, r1, rp, e, fin⟩ => by
  cases e
  exact fin σ H Hs (Stp.refl rp)
def sBrk : SP := fun env => some (.bk env)
def sCnt : SP := fun env => some (.ct env)
theorem s_brk : PS X (.Break pos) (tS (wdOf X) W sBrk) := ps_weak ps_break fun D σ H ⟨env, Hs, r1, rp, e, fin⟩ => by
  cases e
  exact fin σ H Hs (Stp.refl rp)
theorem s_cnt : PS X (.Continue pos) (tS (wdOf X) W sCnt) := ps_weak ps_continue fun D σ H ⟨env, Hs, r1, rp, e, fin⟩ => by
  cases e
  exact fin σ H Hs (Stp.refl rp)
def sDrop (p : M Val) : SP := sWith p fun _ env => some (.nx env)
theorem s_expr (he : PE X e (tX (wdOf X) W p)) (hs : swapsWith e none pos.line X.env = pure false := by rfl) : PS X (.Expr e pos) (tS (wdOf X) W (sDrop p)) :=
  ps_weak (ps_expr he hs) fun D σ H ⟨env, Hs, r1, rp, e, fin⟩ => by
    refine Tm.with rp e fin fun a env1 v H1 Hs1 hp st rv e1 => ?_
    cases e1
    exact fin σ H1 Hs1 st
def sRet (p : M Val) : SP := sWith p fun v env => some (.rt v env)
theorem s_ret (he : PE X e (tX (wdOf X) W p)) : PS X (.Return (some e) pos) (tS (wdOf X) W (sRet p)) :=
  ps_weak (ps_ret he) fun D σ H ⟨env, Hs, r1, rp, e, fin⟩ => by
    refine Tm.with rp e fin fun a env1 v H1 Hs1 hp st rv e1 => ?_
    cases e1
    exact fin v σ H1 Hs1 st rv
def sRetN : SP := fun env => some (.rt (.fz .non) env)
theorem s_retN : PS X (.Return none pos) (tS (wdOf X) W sRetN) := ps_weak ps_retN fun D σ H ⟨env, Hs, r1, rp, e, fin⟩ => by
  cases e
  exact fin .non σ H Hs (Stp.refl rp) (by simp [RV, Rp])
def sIf (c : M Bool) (s t : SP) : SP := sWith c fun b => if b then s else t
theorem s_if (hc : PT X c (tT (wdOf X) W tb)) (ha : PSs X sts (tS (wdOf X) W s)) (hb : PSs X sts2 (tS (wdOf X) W t)) : PS X (.If c sts sts2 pos) (tS (wdOf X) W (sIf tb s t)) :=
  ps_weak (ps_if hc ha hb) fun D σ H ⟨env, Hs, r1, rp, e, fin⟩ => by
    refine Tm.with rp e fin fun k env1 v H1 Hs1 hp st rv e1 => ?_
    cases (show k = v from rv)
    cases k with
    | true => exact ⟨env1, Hs1, r1, st.rep, e1, fin.later st⟩
    | false => exact ⟨env1, Hs1, r1, st.rep, e1, fin.later st⟩
def stow (i : Nat) (v : Val) (env : SE) : Option SE :=
  if i < env.length then
    match env[i]? with
    | some (some (.io _)) => none
    | _ => match v with
      | .fz d => some (env.set i (some (.fz d)))
      | .fr d => some (env.set i (some (.own d)))
      | .bor _ => none
  else none
theorem Stp.stow {C : Wd} {Hs H Hs1 H1 : Hp} {σ σ1 : L2.St} {env env1 env2 : SE} {i : Nat} {a : Val} {v : V} (s : Stp C Hs H σ env Hs1 H1 σ1 env1) (h : stow i a env1 = some env2) (rv : RV C Hs H σ env Hs1 H1 σ1 env1 a v) : Stp C Hs H σ env Hs1 H1 (σ1.set i (some v)) env2 := by
  have r := s.rep
  unfold VE.stow at h
  split at h
  · rename_i hi
    have hσ : i < σ1.length := by rw [← r.len]; exact hi
    -- what the other slots hold
    have back : ∀ {x : Bnd} {j : Nat} {b : Bnd}, (env1.set i (some x))[j]? = some (some b) → (j = i ∧ x = b) ∨ (j ≠ i ∧ env1[j]? = some (some b) ∧ (σ1.set i (some v))[j]? = σ1[j]?) := fun {x j b} e => by
      rcases set_at e with ⟨z, w, _⟩ | ⟨z, w⟩
      · exact .inl ⟨z, Option.some.inj w⟩
      · exact .inr ⟨z, w, by rw [List.getElem?_set_ne (Ne.symm z)]⟩
    split at h
    · cases h
    · rename_i hio
      cases a with
      | bor j => cases h
      | fz d =>
        cases h
        have noOwn : ∀ x, Own H1 (σ1.set i (some v)) (env1.set i (some (.fz d))) x → Own H1 σ1 env1 x := fun x ⟨j, bj, c, e1, e2, e3, e4⟩ => by
          rcases back e1 with ⟨_, w⟩ | ⟨_, w, w2⟩
          · subst w; cases e2
          · exact ⟨j, bj, c, w, e2, by rw [← w2]; exact e3, e4⟩
        refine ⟨s.ex, ⟨r.ex, by rw [List.length_set, List.length_set]; exact r.len, fun j b ej => ?_, fun j k bj bk c e x e1 e2 e3 e4 e5 e6 e7 e8 => ?_⟩, fun x o h1 h2 h3 => ?_, fun j d' ej => ?_⟩
        · rcases back ej with ⟨z, w⟩ | ⟨z, w, w2⟩
          · subst z; subst w
            exact ⟨v, List.getElem?_set_self hσ, by unfold RB; rw [if_neg (by simp [Bnd.ow])]; exact rv⟩
          · obtain ⟨v', e', q⟩ := r.at_ j b w
            exact ⟨v', by rw [w2]; exact e', q⟩
        · rcases back e1 with ⟨_, w⟩ | ⟨_, w, w2⟩
          · subst w; cases e3
          · rcases back e2 with ⟨_, y⟩ | ⟨_, y, y2⟩
            · subst y; cases e4
            · exact r.sep j k bj bk c e x w y e3 e4 (by rw [← w2]; exact e5) (by rw [← y2]; exact e6) e7 e8
        · obtain ⟨k1, k2, k3⟩ := s.fr x o h1 h2 h3
          exact ⟨k1, k2, fun z => k3 (noOwn x z)⟩
        · rcases back ej with ⟨_, w⟩ | ⟨z, w, w2⟩
          · cases w
          · obtain ⟨q1, q2⟩ := s.io j d' w
            exact ⟨w2.trans q1, q2⟩
      | fr d =>
        cases h
        obtain ⟨ad, rfl, o, w0⟩ := rv
        have split : ∀ x, Own H1 (σ1.set i (some (.ref ad))) (env1.set i (some (.own d))) x → x ∈ ft H1 d ad ∨ Own H1 σ1 env1 x := fun x ⟨j, bj, c, e1, e2, e3, e4⟩ => by
          rcases back e1 with ⟨z, w⟩ | ⟨_, w, w2⟩
          · subst z; subst w
            rw [List.getElem?_set_self hσ] at e3
            cases e3
            exact .inl e4
          · exact .inr ⟨j, bj, c, w, e2, by rw [← w2]; exact e3, e4⟩
        refine ⟨s.ex, ⟨r.ex, by rw [List.length_set, List.length_set]; exact r.len, fun j b ej => ?_, fun j k bj bk c e x e1 e2 e3 e4 e5 e6 e7 e8 => ?_⟩, fun x u h1 h2 h3 => ?_, fun j d' ej => ?_⟩
        · rcases back ej with ⟨z, w⟩ | ⟨z, w, w2⟩
          · subst z; subst w
            exact ⟨_, List.getElem?_set_self hσ, by unfold RB; rw [if_pos (by simp [Bnd.ow])]; exact ⟨ad, rfl, o⟩⟩
          · obtain ⟨v', e', q⟩ := r.at_ j b w
            exact ⟨v', by rw [w2]; exact e', q⟩
        · rcases back e1 with ⟨z, w⟩ | ⟨z, w, w2⟩
          · rcases back e2 with ⟨z', _⟩ | ⟨z', y, y2⟩
            · rw [z, z']
            · subst z; subst w
              rw [List.getElem?_set_self hσ] at e5
              cases e5
              exact absurd ⟨k, bk, e, y, e4, by rw [← y2]; exact e6, e8⟩ (w0 x e7).1
          · rcases back e2 with ⟨z', y⟩ | ⟨z', y, y2⟩
            · subst z'; subst y
              rw [List.getElem?_set_self hσ] at e6
              cases e6
              exact absurd ⟨j, bj, c, w, e3, by rw [← w2]; exact e5, e7⟩ (w0 x e8).1
            · exact r.sep j k bj bk c e x w y e3 e4 (by rw [← w2]; exact e5) (by rw [← y2]; exact e6) e7 e8
        · obtain ⟨k1, k2, k3⟩ := s.fr x u h1 h2 h3
          refine ⟨k1, k2, fun z => ?_⟩
          rcases split x z with z | z
          · exact h3 ((w0 x z).2 u h1 h2)
          · exact k3 z
        · rcases back ej with ⟨_, w⟩ | ⟨z, w, w2⟩
          · cases w
          · obtain ⟨q1, q2⟩ := s.io j d' w
            exact ⟨w2.trans q1, q2⟩
  · cases h
def sSet (i : Nat) (p : M Val) : SP := sWith p fun v env => (stow i v env).map .nx
theorem s_set {i : Nat} {x : Str} {pos' : Pos} (hN : X.N.Nodup) (hi : X.N[i]? = some x) (hx : Loc X.env.scope x) (he : PE X e (tX (wdOf X) W p)) (hs : swapsWith e (some (.Name x pos')) pos.line X.env = pure false := by rfl) (hf : X.fn x = true ∨ X.env.scope.names.lookup x = some .local := by first | exact .inl rfl | exact .inr rfl | assumption) :
    PS X (.Assign [.Name x pos'] e pos) (tS (wdOf X) W (sSet i p)) :=
  ps_weak (ps_set hN hi hx he hs hf) fun D σ H ⟨env, Hs, r1, rp, e, fin⟩ => by
    refine Tm.with rp e fin fun a env1 v H1 Hs1 hp st rv e1 => ?_
    cases hw : stow i a env1 with
    | none => rw [hw] at e1; cases e1
    | some env2 =>
      rw [hw] at e1
      cases e1
      exact fin _ H1 Hs1 (st.stow hw rv)
end
end VE
namespace VE
open PySem PySem.Spec PyProof.Rows L2
def ioB : SE → SE → SE
  | [], _ => []
  | some (.io _) :: r, some (.io d) :: r' => some (.io d) :: ioB r r'
  | _ :: r, _ :: r' => none :: ioB r r'
  | _ :: r, [] => none :: ioB r []
theorem ioB_len : ∀ (e e' : SE), (ioB e e').length = e.length
  | [], _ => by simp [ioB]
  | a :: r, [] => by
    have := ioB_len r []
    unfold ioB
    split <;> simp_all
  | a :: r, b :: r' => by
    have := ioB_len r r'
    unfold ioB
    split <;> simp_all
theorem ioB_at : ∀ {e e' : SE} {i : Nat} {b : Bnd}, (ioB e e')[i]? = some (some b) → ∃ d0 d : D, b = Bnd.io d ∧ e[i]? = some (some (Bnd.io d0)) ∧ e'[i]? = some (some (Bnd.io d))
  | [], e', i, b, h => by simp [ioB] at h
  | a :: r, [], 0, b, h => by
    unfold ioB at h
    split at h <;> simp_all
  | a :: r, [], i + 1, b, h => by
    have h' : (ioB r [])[i]? = some (some b) := by
      unfold ioB at h
      split at h <;> simp_all
    obtain ⟨_, _, _, _, z⟩ := ioB_at h'
    simp at z
  | a :: r, c :: r', 0, b, h => by
    unfold ioB at h
    split at h
    · simp_all
    · rename_i d0 r1 d r2 e1 e2
      simp only [List.cons.injEq] at e1 e2
      simp only [List.getElem?_cons_zero, Option.some.injEq] at h
      subst h
      exact ⟨d0, d, rfl, by simp [e1.1], by simp [e2.1]⟩
    · simp at h
    · simp at h
  | a :: r, c :: r', i + 1, b, h => by
    have h' : (ioB r r')[i]? = some (some b) := by
      unfold ioB at h
      split at h <;> simp_all
    obtain ⟨d0, d, e1, e2, e3⟩ := ioB_at h'
    exact ⟨d0, d, e1, by simpa using e2, by simpa using e3⟩
def semF (n N : Nat) (P : SP) : M Val := fun e0 => if e0.length = n then
    match P (e0 ++ List.replicate (N - n) none) with
    | some (.nx e') => some (.ok (.fz .non) (ioB e0 e'))
    | some (.rt (.fz d) e') => some (.ok (.fz d) (ioB e0 e'))
    | some (.rt (.fr d) e') => some (.ok (.fr d) (ioB e0 e'))
    | some (.exc c d e') => some (.exc c d (ioB e0 e'))
    | _ => none
  else none
def spF (C : Wd) (n : Nat) (F : M Val) : Sp := fun vs H Q E => vs.length = n ∧ Tm C (fun cls d _ H' => E cls d H') (RVx C) F (vs.map some) H Q
theorem pad_at {e0 : SE} {k i : Nat} {b : Bnd} (h : (e0 ++ List.replicate k none)[i]? = some (some b)) : e0[i]? = some (some b) := by
  by_cases hi : i < e0.length
  · rwa [List.getElem?_append_left hi] at h
  · rw [List.getElem?_append_right (by omega), List.getElem?_replicate] at h
    split at h <;> cases h
theorem start_at {N : List Str} {vs : List V} {i : Nat} (h : i < vs.length) : (start N vs)[i]? = (vs.map some)[i]? := by
  unfold L2.start
  rw [List.getElem?_append_left (by simpa using h)]
section
variable {C : Wd} {N : List Str} {vs : List V} {Hs H : Hp} {e0 : SE}
theorem Rep.begin (r : Rep C Hs H (vs.map some) e0) (hl : vs.length ≤ N.length) : Rep C Hs H (start N vs) (e0 ++ List.replicate (N.length - vs.length) none) := by
  have le : e0.length = vs.length := by rw [r.len, List.length_map]
  have lt : ∀ {i : Nat} {b : Bnd}, e0[i]? = some (some b) → i < vs.length := fun {i b} e => by rw [← le]; exact (List.getElem?_eq_some_iff.mp e).1
  refine ⟨r.ex, by simp [L2.start, le], fun i b e => ?_, fun i j bi bj a c x e1 e2 e3 e4 e5 e6 e7 e8 => ?_⟩
  · have e := pad_at e
    rw [start_at (lt e)]
    exact r.at_ i b e
  · have e1 := pad_at e1
    have e2 := pad_at e2
    rw [start_at (lt e1)] at e5
    rw [start_at (lt e2)] at e6
    exact r.sep i j bi bj a c x e1 e2 e3 e4 e5 e6 e7 e8
theorem own_begin (r : Rep C Hs H (vs.map some) e0) {a : Addr} : Own H (start N vs) (e0 ++ List.replicate (N.length - vs.length) none) a ↔ Own H (vs.map some) e0 a := by
  have le : e0.length = vs.length := by rw [r.len, List.length_map]
  have lt : ∀ {i : Nat} {b : Bnd}, e0[i]? = some (some b) → i < vs.length := fun {i b} e => by rw [← le]; exact (List.getElem?_eq_some_iff.mp e).1
  constructor
  · rintro ⟨i, b, c, e1, e2, e3, e4⟩
    have e1 := pad_at e1
    rw [start_at (lt e1)] at e3
    exact ⟨i, b, c, e1, e2, e3, e4⟩
  · rintro ⟨i, b, c, e1, e2, e3, e4⟩
    refine ⟨i, b, c, ?_, e2, by rw [start_at (lt e1)]; exact e3, e4⟩
    rw [List.getElem?_append_left (List.getElem?_eq_some_iff.mp e1).1]
    exact e1
variable {Hs' H' : Hp} {σ' : L2.St} {e' : SE}
theorem own_end (r : Rep C Hs H (vs.map some) e0) (s : Stp C Hs H (start N vs) (e0 ++ List.replicate (N.length - vs.length) none) Hs' H' σ' e') {a : Addr} (h : Own H' (vs.map some) (ioB e0 e') a) : Own H' σ' e' a := by
  have le : e0.length = vs.length := by rw [r.len, List.length_map]
  obtain ⟨i, b, c, e1, e2, e3, e4⟩ := h
  obtain ⟨d0, d, rfl, q1, q2⟩ := ioB_at e1
  have hi : i < vs.length := by rw [← le]; exact (List.getElem?_eq_some_iff.mp q1).1
  exact ⟨i, _, c, q2, rfl, by rw [(s.io i d q2).1, start_at hi]; exact e3, e4⟩
theorem Stp.finish (r : Rep C Hs H (vs.map some) e0) (s : Stp C Hs H (start N vs) (e0 ++ List.replicate (N.length - vs.length) none) Hs' H' σ' e') : Stp C Hs H (vs.map some) e0 Hs' H' (vs.map some) (ioB e0 e') := by
  have le : e0.length = vs.length := by rw [r.len, List.length_map]
  have lt : ∀ {i : Nat} {b : Bnd}, e0[i]? = some (some b) → i < vs.length := fun {i b} e => by rw [← le]; exact (List.getElem?_eq_some_iff.mp e).1
  refine ⟨s.ex, ⟨s.rep.ex, by rw [ioB_len]; exact r.len, fun i b e => ?_, fun i j bi bj a c x e1 e2 e3 e4 e5 e6 e7 e8 => ?_⟩, fun a o h1 h2 h3 => ?_, fun i d' e => ?_⟩
  · obtain ⟨d0, d, rfl, q1, q2⟩ := ioB_at e
    obtain ⟨v, ev, q⟩ := s.rep.at_ i _ q2
    refine ⟨v, ?_, q⟩
    rw [← start_at (N := N) (lt q1), ← (s.io i d q2).1]
    exact ev
  · obtain ⟨_, d1, rfl, p1, p2⟩ := ioB_at e1
    obtain ⟨_, d2, rfl, q1, q2⟩ := ioB_at e2
    refine s.rep.sep i j _ _ a c x p2 q2 rfl rfl ?_ ?_ e7 e8
    · rw [(s.io i d1 p2).1, start_at (lt p1)]; exact e5
    · rw [(s.io j d2 q2).1, start_at (lt q1)]; exact e6
  · obtain ⟨k1, k2, k3⟩ := s.fr a o h1 h2 (fun z => h3 ((own_begin r).mp z))
    exact ⟨k1, k2, fun z => k3 (own_end r s z)⟩
  · obtain ⟨d0, d, _, q1, _⟩ := ioB_at e
    exact ⟨rfl, d0, q1⟩
theorem RV.finish {a : Val} {v : V} (r : Rep C Hs H (vs.map some) e0) (s : Stp C Hs H (start N vs) (e0 ++ List.replicate (N.length - vs.length) none) Hs' H' σ' e') (nb : ∀ i, a ≠ .bor i)
    (rv : RV C Hs H (start N vs) (e0 ++ List.replicate (N.length - vs.length) none) Hs' H' σ' e' a v) : RV C Hs H (vs.map some) e0 Hs' H' (vs.map some) (ioB e0 e') a v := by
  cases a with
  | fz d => exact rv
  | bor i => exact absurd rfl (nb i)
  | fr d =>
    obtain ⟨x, e, o, w⟩ := rv
    exact ⟨x, e, o, fun y hy => ⟨fun z => (w y hy).1 (own_end r s z), fun u h1 h2 => (own_begin r).mp ((w y hy).2 u h1 h2)⟩⟩
theorem sem_read {P : SP} {Q : VK} {E : XK} {n : Nat} (hn : n ≤ N.length) (h : spF C n (semF n N.length P) vs H Q E) : tS C (fun cls d _ H' => E cls d H') P { nx := fun _ H' => Q .non H', rt := Q } (start N vs) H := by
  obtain ⟨hl, e0, Hs, r, rp, e, fin⟩ := h
  subst hl
  have le : e0.length = vs.length := by rw [rp.len, List.length_map]
  unfold semF at e
  rw [if_pos le] at e
  cases hP : P (e0 ++ List.replicate (N.length - vs.length) none) with
  | none => rw [hP] at e; cases e
  | some o =>
    rw [hP] at e
    refine ⟨_, Hs, o, rp.begin hn, hP, ?_⟩
    cases o with
    | nx e' =>
      cases e
      exact fun σ' H' Hs' s => fin .non H' Hs' (Stp.finish rp s) (by simp [RV, Rp])
    | rt a e' =>
      cases a with
      | fz d => cases e; exact fun x σ' H' Hs' s rv => fin x H' Hs' (Stp.finish rp s) (RV.finish rp s (fun _ z => by cases z) rv)
      | fr d => cases e; exact fun x σ' H' Hs' s rv => fin x H' Hs' (Stp.finish rp s) (RV.finish rp s (fun _ z => by cases z) rv)
      | bor i => cases e
    | bk e' => cases e
    | ct e' => cases e
    | exc c d e' =>
      cases e
      exact fun cls od σ' H' Hs' s x => fin cls od H' Hs' (Stp.finish rp s) x
end
theorem ok_fn {P : Program} {w : World} {K : PySem.W.Frag} {mg : Str → Option Value} {base : Heap} {x qual : Str} {st : Stmt} {f : Addr} {fd : FuncData} {N ps : List Str} {k : Nat} {B : SP} (F : Fun K x qual st f fd) (S : FnScope N ps (defScope st))
    (hb : ∀ (cdv : Value) (A : Around) (outer : List Env) (s : Shared) (H : Hp) (E : XK), Room k (A.deeper (envOfC qual (defScope st) s.heap.objs.size f cdv)) → PSs (cxOf (L2.CX P w) P w K mg base N qual (defScope st) f cdv A outer s H E) (defBody st) (tS ⟨P, w, K, mg⟩ (fun cls d _ H' => E cls d H') B)) :
    FnOk P w K mg base (L2.CX P w) (k + 1) f fd ps (spF ⟨P, w, K, mg⟩ ps.length (semF ps.length N.length B)) := by
  refine F.okX S (fun vs H Q E h => h.1) (fun cdv A outer s H vs Q E hr h => ⟨_, hb cdv A outer s H E hr, sem_read ?_ h⟩)
  have := congrArg List.length S.pre
  rw [List.length_take] at this
  omega
def argsE (env : SE) : List Val → Option SE
  | [] => some []
  | .fz d :: r => (argsE env r).map (some (.fz d) :: ·)
  | .bor i :: r => match env[i]? with
    | some (some (.own d)) => (argsE env r).map (some (.io d) :: ·)
    | some (some (.io d)) => (argsE env r).map (some (.io d) :: ·)
    | _ => none
  | .fr _ :: _ => none
def backE (env : SE) : List Val → SE → Option SE
  | [], _ => some env
  | .fz _ :: r, _ :: e => backE env r e
  | .bor i :: r, some (.io d) :: e => match env[i]? with
    | some (some (.own _)) => backE (env.set i (some (.own d))) r e
    | some (some (.io _)) => backE (env.set i (some (.io d))) r e
    | _ => none
  | _, _ => none
def bors : List Val → List Nat
  | [] => []
  | .bor i :: r => i :: bors r
  | _ :: r => bors r
def xdef (n : Nat) (F : M Val) (pa : M (List Val)) : M Val := pa.bind fun vs env =>
  if vs.length = n ∧ (bors vs).Nodup then
    (argsE env vs).bind fun e0 => match F e0 with
      | some (.ok (.fz d) e1) => (backE env vs e1).map (.ok (.fz d))
      | some (.ok (.fr d) e1) => (backE env vs e1).map (.ok (.fr d))
      | some (.exc c d e1) => (backE env vs e1).map (.exc c d)
      | _ => none
  else none
section
variable {C : Wd} {Hs H : Hp} {σ : L2.St} {env : SE}
theorem argsE_at : ∀ {l : List Val} {e0 : SE}, argsE env l = some e0 → ∀ {k : Nat} {b : Bnd}, e0[k]? = some (some b) → (∃ d : D, b = Bnd.fz d ∧ l[k]? = some (Val.fz d)) ∨ (∃ (i : Nat) (d : D) (b' : Bnd), b = Bnd.io d ∧ l[k]? = some (Val.bor i) ∧ env[i]? = some (some b') ∧ b'.ow = true ∧ b'.d = d)
  | [], e0, h, k, b, e => by cases h; simp at e
  | .fr _ :: _, e0, h, k, b, e => by cases h
  | .fz d :: r, e0, h, k, b, e => by
    unfold argsE at h
    cases h2 : argsE env r with
    | none => rw [h2] at h; cases h
    | some e1 =>
      rw [h2] at h; cases h
      cases k with
      | zero =>
        have q : some (Bnd.fz d) = some b := Option.some.inj e
        cases q
        exact .inl ⟨d, rfl, rfl⟩
      | succ k =>
        have q : e1[k]? = some (some b) := e
        exact argsE_at h2 q
  | .bor i :: r, e0, h, k, b, e => by
    unfold argsE at h
    have go : ∀ {d : D} {b' : Bnd}, env[i]? = some (some b') → b'.ow = true → b'.d = d → (argsE env r).map (some (.io d) :: ·) = some e0 → (∃ d, b = .fz d ∧ (Val.bor i :: r)[k]? = some (.fz d)) ∨ (∃ j d b', b = .io d ∧ (Val.bor i :: r)[k]? = some (.bor j) ∧ env[j]? = some (some b') ∧ b'.ow = true ∧ b'.d = d) := fun {d b'} h1 h3 h4 h => by
      cases h2 : argsE env r with
      | none => rw [h2] at h; cases h
      | some e1 =>
        rw [h2] at h; cases h
        cases k with
        | zero =>
          have q : some (Bnd.io d) = some b := Option.some.inj e
          cases q
          exact .inr ⟨i, d, b', rfl, rfl, h1, h3, h4⟩
        | succ k =>
          have q : e1[k]? = some (some b) := e
          exact argsE_at h2 q
    split at h
    · rename_i d hd
      exact go hd rfl rfl h
    · rename_i d hd
      exact go hd rfl rfl h
    · cases h
theorem argsE_len : ∀ {l : List Val} {e0 : SE}, argsE env l = some e0 → e0.length = l.length
  | [], e0, h => by cases h; rfl
  | .fr _ :: _, e0, h => by cases h
  | .fz d :: r, e0, h => by
    unfold argsE at h
    cases h2 : argsE env r with
    | none => rw [h2] at h; cases h
    | some e1 => rw [h2] at h; cases h; simp [argsE_len h2]
  | .bor i :: r, e0, h => by
    unfold argsE at h
    split at h
    · cases h2 : argsE env r with
      | none => rw [h2] at h; cases h
      | some e1 => rw [h2] at h; cases h; simp [argsE_len h2]
    · cases h2 : argsE env r with
      | none => rw [h2] at h; cases h
      | some e1 => rw [h2] at h; cases h; simp [argsE_len h2]
    · cases h
theorem RVs.length : ∀ {l : List Val} {vs : List V}, RVs C Hs σ l vs → vs.length = l.length
  | [], vs, h => by cases h; rfl
  | a :: r, vs, ⟨v, t, e, h1, h2⟩ => by subst e; simp [RVs.length h2]
theorem RVs.get : ∀ {l : List Val} {vs : List V} {k : Nat} {a : Val}, RVs C Hs σ l vs → l[k]? = some a → ∃ v, vs[k]? = some v ∧ VV C Hs σ a v
  | [], vs, k, a, h, e => by simp at e
  | a0 :: r, vs, 0, a, ⟨v, t, e0, h1, h2⟩, e => by
    subst e0
    simp at e; subst e
    exact ⟨v, rfl, h1⟩
  | a0 :: r, vs, k + 1, a, ⟨v, t, e0, h1, h2⟩, e => by
    subst e0
    obtain ⟨v', q1, q2⟩ := RVs.get h2 (k := k) (a := a) (by simpa using e)
    exact ⟨v', by simpa using q1, q2⟩
theorem bors_inj : ∀ {l : List Val} {j k i : Nat}, (bors l).Nodup → l[j]? = some (.bor i) → l[k]? = some (.bor i) → j = k
  | [], j, k, i, h, e1, e2 => by simp at e1
  | a :: r, 0, 0, i, h, e1, e2 => rfl
  | a :: r, 0, k + 1, i, h, e1, e2 => by
    simp at e1; subst e1
    have : i ∈ bors r := mem (by simpa using e2)
    exact absurd this (List.nodup_cons.mp h).1
  | a :: r, j + 1, 0, i, h, e1, e2 => by
    simp at e2; subst e2
    have : i ∈ bors r := mem (by simpa using e1)
    exact absurd this (List.nodup_cons.mp h).1
  | a :: r, j + 1, k + 1, i, h, e1, e2 => by
    have h' : (bors r).Nodup := by
      cases a with
      | bor x => exact (List.nodup_cons.mp h).2
      | fz d => exact h
      | fr d => exact h
    have := bors_inj (l := r) (j := j) (k := k) h' (by simpa using e1) (by simpa using e2)
    rw [this]
where mem : ∀ {l : List Val} {k i : Nat}, l[k]? = some (.bor i) → i ∈ bors l
  | [], k, i, e => by simp at e
  | a :: r, 0, i, e => by simp at e; subst e; exact List.mem_cons_self
  | a :: r, k + 1, i, e => by
    have := mem (l := r) (k := k) (i := i) (by simpa using e)
    cases a with
    | bor x => exact List.mem_cons_of_mem _ this
    | fz d => exact this
    | fr d => exact this
theorem bors_mem : ∀ {l : List Val} {i : Nat}, i ∈ bors l → ∃ k : Nat, l[k]? = some (Val.bor i)
  | [], i, h => by cases h
  | .bor x :: r, i, h => by
    rcases List.mem_cons.mp h with e | h
    · exact ⟨0, by rw [e]; rfl⟩
    · obtain ⟨k, e⟩ := bors_mem h
      exact ⟨k + 1, by simpa using e⟩
  | .fz d :: r, i, h => by
    obtain ⟨k, e⟩ := bors_mem (l := r) h
    exact ⟨k + 1, by simpa using e⟩
  | .fr d :: r, i, h => by
    obtain ⟨k, e⟩ := bors_mem (l := r) h
    exact ⟨k + 1, by simpa using e⟩
theorem Rep.call {l : List Val} {vs : List V} {e0 : SE} (r : Rep C Hs H σ env) (rv : RVs C Hs σ l vs) (h : argsE env l = some e0) (nd : (bors l).Nodup) : Rep C Hs H (vs.map some) e0 := by
  refine ⟨r.ex, by rw [argsE_len h, List.length_map, rv.length], fun k b e => ?_, fun j k bj bk a c x e1 e2 e3 e4 e5 e6 e7 e8 => ?_⟩
  · rcases argsE_at h e with ⟨d, rfl, q⟩ | ⟨i, d, b', rfl, q, q1, q2, q3⟩
    · obtain ⟨v, ev, hv⟩ := rv.get q
      exact ⟨v, by rw [List.getElem?_map, ev]; rfl, by unfold RB; rw [if_neg (by simp [Bnd.ow])]; exact hv⟩
    · obtain ⟨v, ev, hv⟩ := rv.get q
      obtain ⟨a, ea, o⟩ := r.held q1 q2
      rw [show σ[i]? = some (some v) from hv] at ea
      cases ea
      exact ⟨_, by rw [List.getElem?_map, ev]; rfl, by unfold RB; rw [if_pos (by simp [Bnd.ow])]; exact ⟨a, rfl, by rw [show (Bnd.io d).d = b'.d from q3.symm]; exact o⟩⟩
  · rcases argsE_at h e1 with ⟨d, rfl, q⟩ | ⟨i, d, b', rfl, q, q1, q2, q3⟩
    · cases e3
    · rcases argsE_at h e2 with ⟨d', rfl, y⟩ | ⟨i', d', b'', rfl, y, y1, y2, y3⟩
      · cases e4
      · obtain ⟨v, ev, hv⟩ := rv.get q
        obtain ⟨u, eu, hu⟩ := rv.get y
        rw [List.getElem?_map, ev] at e5
        rw [List.getElem?_map, eu] at e6
        cases e5
        cases e6
        have := r.sep i i' b' b'' a c x q1 y1 q2 y2 hv hu (by rw [q3]; exact e7) (by rw [y3]; exact e8)
        subst this
        exact bors_inj nd q y
theorem own_call {l : List Val} {vs : List V} {e0 : SE} (r : Rep C Hs H σ env) (rv : RVs C Hs σ l vs) (h : argsE env l = some e0) {x : Addr} (z : Own H (vs.map some) e0 x) : ∃ (k i : Nat) (b : Bnd) (a : Addr), l[k]? = some (.bor i) ∧ env[i]? = some (some b) ∧ b.ow = true ∧ σ[i]? = some (some (.ref a)) ∧ vs[k]? = some (.ref a) ∧ x ∈ ft H b.d a := by
  obtain ⟨k, b, a, e1, e2, e3, e4⟩ := z
  rcases argsE_at h e1 with ⟨d, rfl, q⟩ | ⟨i, d, b', rfl, q, q1, q2, q3⟩
  · cases e2
  · obtain ⟨v, ev, hv⟩ := rv.get q
    rw [List.getElem?_map, ev] at e3
    cases e3
    exact ⟨k, i, b', a, q, q1, q2, hv, ev, by rw [q3]; exact e4⟩
theorem backE_at : ∀ {l : List Val} {env e1 env' : SE}, (bors l).Nodup → backE env l e1 = some env' → env'.length = env.length ∧ ∀ (j : Nat) (b : Bnd), env'[j]? = some (some b) →
    (j ∉ bors l ∧ env[j]? = some (some b)) ∨ (∃ (k : Nat) (d : D) (b0 : Bnd), l[k]? = some (Val.bor j) ∧ e1[k]? = some (some (Bnd.io d)) ∧ env[j]? = some (some b0) ∧ b.d = d ∧ b.ow = true ∧ b0.ow = true ∧ ((∃ x, b = .io x) → ∃ x, b0 = .io x))
  | [], env, e1, env', nd, h => by
    unfold backE at h
    cases h
    exact ⟨rfl, fun j b e => .inl ⟨by simp [bors], e⟩⟩
  | .fr _ :: _, env, e1, env', nd, h => by simp [backE] at h
  | .fz d :: r, env, [], env', nd, h => by simp [backE] at h
  | .fz d :: r, env, x :: e, env', nd, h => by
    obtain ⟨hl, q⟩ := backE_at (l := r) (env := env) (e1 := e) nd (by simpa [backE] using h)
    refine ⟨hl, fun j b ej => ?_⟩
    rcases q j b ej with z | ⟨k, d', b0, z1, z2, z3⟩
    · exact .inl z
    · exact .inr ⟨k + 1, d', b0, by simpa using z1, by simpa using z2, z3⟩
  | .bor i :: r, env, [], env', nd, h => by simp [backE] at h
  | .bor i :: r, env, none :: e, env', nd, h => by simp [backE] at h
  | .bor i :: r, env, some (.fz _) :: e, env', nd, h => by simp [backE] at h
  | .bor i :: r, env, some (.own _) :: e, env', nd, h => by simp [backE] at h
  | .bor i :: r, env, some (.io d) :: e, env', nd, h => by
    have nd' := List.nodup_cons.mp nd
    have go : ∀ (nb b0 : Bnd), env[i]? = some (some b0) → nb.d = d → nb.ow = true → b0.ow = true → ((∃ x, nb = .io x) → ∃ x, b0 = .io x) → backE (env.set i (some nb)) r e = some env' →
        env'.length = env.length ∧ ∀ (j : Nat) (b : Bnd), env'[j]? = some (some b) → (j ∉ bors (.bor i :: r) ∧ env[j]? = some (some b)) ∨
          (∃ (k : Nat) (d' : D) (b0 : Bnd), (Val.bor i :: r)[k]? = some (Val.bor j) ∧ (some (Bnd.io d) :: e)[k]? = some (some (Bnd.io d')) ∧ env[j]? = some (some b0) ∧ b.d = d' ∧ b.ow = true ∧ b0.ow = true ∧ ((∃ x, b = .io x) → ∃ x, b0 = .io x)) := fun nb b0 h0 h1 h2 h3 h4 h => by
      obtain ⟨hl, q⟩ := backE_at (l := r) (env := env.set i (some nb)) (e1 := e) nd'.2 h
      refine ⟨by rw [hl, List.length_set], fun j b ej => ?_⟩
      rcases q j b ej with ⟨z1, z2⟩ | ⟨k, d', b1, z1, z2, z3, z4, z5, z6, z7⟩
      · rcases set_at z2 with ⟨w1, w2, _⟩ | ⟨w1, w2⟩
        · subst w1
          cases w2
          exact .inr ⟨0, d, b0, rfl, rfl, h0, h1, h2, h3, h4⟩
        · exact .inl ⟨fun w => (List.mem_cons.mp w).elim w1 z1, w2⟩
      · rcases set_at z3 with ⟨w1, w2, _⟩ | ⟨w1, w2⟩
        · subst w1
          exact absurd (bors_inj.mem z1) nd'.1
        · exact .inr ⟨k + 1, d', b1, by simpa using z1, by simpa using z2, w2, z4, z5, z6, z7⟩
    unfold backE at h
    split at h
    · rename_i d0 hd
      exact go (.own d) (.own d0) hd rfl rfl rfl (fun ⟨x, z⟩ => by cases z) h
    · rename_i d0 hd
      exact go (.io d) (.io d0) hd rfl rfl rfl (fun _ => ⟨_, rfl⟩) h
    · cases h
theorem Stp.call {l : List Val} {vs : List V} {e0 e1 env' : SE} {Hs' H' : Hp} (r : Rep C Hs H σ env) (rv : RVs C Hs σ l vs) (h : argsE env l = some e0) (nd : (bors l).Nodup) (s : Stp C Hs H (vs.map some) e0 Hs' H' (vs.map some) e1) (hb : backE env l e1 = some env') :
    Stp C Hs H σ env Hs' H' σ env' ∧ ∀ x, Own H' σ env' x → ¬ Own H' (vs.map some) e1 x → ∃ o, H x = some o ∧ Hs x = none ∧ ¬ Own H (vs.map some) e0 x := by
  obtain ⟨hl, q⟩ := backE_at nd hb
  -- a slot of one's own that is not lent
  have keepO : ∀ (j : Nat) (b : Bnd) (a x : Addr), j ∉ bors l → env[j]? = some (some b) → b.ow = true → σ[j]? = some (some (.ref a)) → x ∈ ft H b.d a → ¬ Own H (vs.map some) e0 x := fun j b a x nj e1 e2 e3 hx z => by
    obtain ⟨k, i, b', c, z1, z2, z3, z4, _, z6⟩ := own_call r rv h z
    have := r.sep j i b b' a c x e1 z2 e2 z3 e3 z4 hx z6
    subst this
    exact nj (bors_inj.mem z1)
  have kept : ∀ (j : Nat) (b : Bnd) (a : Addr), j ∉ bors l → env[j]? = some (some b) → b.ow = true → σ[j]? = some (some (.ref a)) → Held C Hs' H' b.d a ∧ ft H' b.d a = ft H b.d a := fun j b a nj e1 e2 e3 => by
    obtain ⟨a', ea, o⟩ := r.held e1 e2
    rw [e3] at ea; cases ea
    have w : ∀ x ∈ ft H b.d a, H' x = H x ∧ Hs' x = none := fun x hx => by
      obtain ⟨u, hu⟩ := o.there hx
      obtain ⟨k1, k2, _⟩ := s.fr x u hu (o.out x hx) (keepO j b a x nj e1 e2 e3 hx)
      exact ⟨k1.trans hu.symm, k2⟩
    exact o.mono s.ex (fun x hx => (w x hx).1) fun x hx => (w x hx).2
  -- a slot that was lent
  have lent : ∀ (k j : Nat) (d : D) (b b0 : Bnd) (a : Addr), l[k]? = some (Val.bor j) → e1[k]? = some (some (Bnd.io d)) → b.d = d → σ[j]? = some (some (.ref a)) → Held C Hs' H' b.d a ∧ ∀ x ∈ ft H' b.d a, Own H' (vs.map some) e1 x := fun k j d b b0 a z1 z2 z4 z5 => by
    obtain ⟨v, ev, hv⟩ := rv.get z1
    rw [show σ[j]? = some (some v) from hv] at z5
    cases z5
    obtain ⟨a', ea, o⟩ := s.rep.held z2 rfl
    rw [List.getElem?_map, ev] at ea
    cases ea
    rw [z4]
    exact ⟨o, fun x hx => ⟨k, _, a, z2, rfl, by rw [List.getElem?_map, ev]; rfl, hx⟩⟩
  -- what is one's own behind the call
  have cases2 : ∀ (j : Nat) (b : Bnd) (a : Addr), env'[j]? = some (some b) → b.ow = true → σ[j]? = some (some (.ref a)) → Held C Hs' H' b.d a ∧ ((j ∉ bors l ∧ env[j]? = some (some b) ∧ ft H' b.d a = ft H b.d a) ∨ (∀ x ∈ ft H' b.d a, Own H' (vs.map some) e1 x) ∧ ∃ k, l[k]? = some (Val.bor j) ∧ ∃ d, e1[k]? = some (some (Bnd.io d)) ∧ b.d = d) := fun j b a e1 e2 e3 => by
    rcases q j b e1 with ⟨z1, z2⟩ | ⟨k, d, b0, z1, z2, z3, z4, z5, z6, z7⟩
    · obtain ⟨p1, p2⟩ := kept j b a z1 z2 e2 e3
      exact ⟨p1, .inl ⟨z1, z2, p2⟩⟩
    · obtain ⟨p1, p2⟩ := lent k j d b b0 a z1 z2 z4 e3
      exact ⟨p1, .inr ⟨p2, k, z1, d, z2, z4⟩⟩
  -- what was there and is not the callee's stays so
  have old : ∀ x, Own H (vs.map some) e0 x → Own H σ env x := fun x z => by
    obtain ⟨k, i, b', c, z1, z2, z3, z4, _, z6⟩ := own_call r rv h z
    exact ⟨i, b', c, z2, z3, z4, z6⟩
  refine ⟨⟨s.ex, ⟨s.rep.ex, hl.trans r.len, fun j b e => ?_, fun j k bj bk a c x e1 e2 e3 e4 e5 e6 e7 e8 => ?_⟩, fun x o h1 h2 h3 => ?_, fun j d' e => ?_⟩, fun x ⟨j, b, a, e1, e2, e3, e4⟩ nw => ?_⟩
  · by_cases hb : b.ow = true
    · have : ∃ v, σ[j]? = some (some v) := by
        rcases q j b e with ⟨z1, z2⟩ | ⟨k, d, b0, z1, _⟩
        · obtain ⟨v, ev, _⟩ := r.at_ j b z2; exact ⟨v, ev⟩
        · obtain ⟨v, ev, hv⟩ := rv.get z1; exact ⟨v, hv⟩
      obtain ⟨v, ev⟩ := this
      have : ∃ a, v = .ref a := by
        rcases q j b e with ⟨z1, z2⟩ | ⟨k, d, b0, z1, z2, z3, z4, z5, z6, z7⟩
        · obtain ⟨a, ea, _⟩ := r.held z2 hb
          rw [ev] at ea; cases ea; exact ⟨a, rfl⟩
        · obtain ⟨a, ea, _⟩ := r.held z3 z6
          rw [ev] at ea; cases ea; exact ⟨a, rfl⟩
      obtain ⟨a, rfl⟩ := this
      exact ⟨_, ev, by unfold RB; rw [if_pos hb]; exact ⟨a, rfl, (cases2 j b a e hb ev).1⟩⟩
    · rcases q j b e with ⟨z1, z2⟩ | ⟨k, d, b0, z1, z2, z3, z4, z5, z6, z7⟩
      · obtain ⟨v, ev, hv⟩ := r.at_ j b z2
        refine ⟨v, ev, ?_⟩
        unfold RB at hv ⊢
        rw [if_neg hb] at hv ⊢
        exact Rp.mono s.ex _ _ hv
      · exact absurd z5 hb
  · obtain ⟨_, p⟩ := cases2 j bj a e1 e3 e5
    obtain ⟨_, p'⟩ := cases2 k bk c e2 e4 e6
    rcases p with ⟨p1, p2, p3⟩ | ⟨p1, k1, p2, d1, p3, p4⟩
    · rcases p' with ⟨q1, q2, q3⟩ | ⟨q1, k2, q2, d2, q3, q4⟩
      · rw [p3] at e7
        rw [q3] at e8
        exact r.sep j k bj bk a c x p2 q2 e3 e4 e5 e6 e7 e8
      · exfalso
        rw [p3] at e7
        obtain ⟨a', ea, o⟩ := r.held p2 e3
        rw [e5] at ea; cases ea
        obtain ⟨u, hu⟩ := o.there e7
        exact (s.fr x u hu (o.out x e7) (keepO j bj a x p1 p2 e3 e5 e7)).2.2 (q1 x e8)
    · rcases p' with ⟨q1, q2, q3⟩ | ⟨q1, k2, q2, d2, q3, q4⟩
      · exfalso
        rw [q3] at e8
        obtain ⟨a', ea, o⟩ := r.held q2 e4
        rw [e6] at ea; cases ea
        obtain ⟨u, hu⟩ := o.there e8
        exact (s.fr x u hu (o.out x e8) (keepO k bk c x q1 q2 e4 e6 e8)).2.2 (p1 x e7)
      · obtain ⟨v, ev, hv⟩ := rv.get p2
        obtain ⟨w, ew, hw⟩ := rv.get q2
        rw [show σ[j]? = some (some v) from hv] at e5; cases e5
        rw [show σ[k]? = some (some w) from hw] at e6; cases e6
        have e := s.rep.sep k1 k2 _ _ a c x p3 q3 rfl rfl (by rw [List.getElem?_map, ev]; rfl) (by rw [List.getElem?_map, ew]; rfl) (by rw [p4] at e7; exact e7) (by rw [q4] at e8; exact e8)
        subst e
        rw [p2] at q2
        exact Val.bor.inj (Option.some.inj q2)
  · obtain ⟨k1, k2, k3⟩ := s.fr x o h1 h2 fun z => h3 (old x z)
    refine ⟨k1, k2, fun ⟨j, b, a, e1, e2, e3, e4⟩ => ?_⟩
    rcases (cases2 j b a e1 e2 e3).2 with ⟨_, p2, p3⟩ | ⟨p1, _⟩
    · exact h3 ⟨j, b, a, p2, e2, e3, by rw [← p3]; exact e4⟩
    · exact k3 (p1 x e4)
  · rcases q j _ e with ⟨_, z⟩ | ⟨k, d, b0, _, _, z3, _, _, _, z7⟩
    · exact ⟨rfl, d', z⟩
    · obtain ⟨x, hx⟩ := z7 ⟨_, rfl⟩
      exact ⟨rfl, x, by rw [z3, hx]⟩
  · rcases (cases2 j b a e1 e2 e3).2 with ⟨p1, p2, p3⟩ | ⟨p1, _⟩
    · rw [p3] at e4
      obtain ⟨a', ea, o⟩ := r.held p2 e2
      rw [e3] at ea; cases ea
      obtain ⟨u, hu⟩ := o.there e4
      exact ⟨u, hu, o.out x e4, keepO j b a x p1 p2 e2 e3 e4⟩
    · exact absurd (p1 x e4) nw
theorem RV.call {l : List Val} {vs : List V} {e0 e1 env' : SE} {Hs' H' : Hp} {a : Val} {v : V} (r : Rep C Hs H σ env) (rv : RVs C Hs σ l vs) (h : argsE env l = some e0) (nd : (bors l).Nodup) (s : Stp C Hs H (vs.map some) e0 Hs' H' (vs.map some) e1) (hb : backE env l e1 = some env')
    (nb : ∀ i, a ≠ .bor i) (x : RV C Hs H (vs.map some) e0 Hs' H' (vs.map some) e1 a v) : RV C Hs H σ env Hs' H' σ env' a v := by
  cases a with
  | fz d => exact x
  | bor i => exact absurd rfl (nb i)
  | fr d =>
    obtain ⟨b, e, o, w⟩ := x
    refine ⟨b, e, o, fun y hy => ⟨fun z => ?_, fun u h1 h2 => ?_⟩⟩
    · obtain ⟨u, hu, hn, h0⟩ := (Stp.call r rv h nd s hb).2 y z (w y hy).1
      exact h0 ((w y hy).2 u hu hn)
    · obtain ⟨k, i, b', c, z1, z2, z3, z4, _, z6⟩ := own_call r rv h ((w y hy).2 u h1 h2)
      exact ⟨i, b', c, z2, z3, z4, z6⟩
end
section
variable {X : Cx} {W : WX} {e : Expr} {es : List Expr} {pa : M (List Val)} {pos : Pos}
theorem tCall_read {C : Wd} {n : Nat} {F : M Val} {σ : L2.St} {H : Hp} {Q : VK} (h : Tm C W (RVx C) (xdef n F pa) σ H Q) : tCallS (spF C n F) (WE W) (tA C W pa) σ H Q := by
  obtain ⟨env, Hs, r1, rp, e, fin⟩ := h
  refine Tm.bindAt rp e fin fun l env1 vs H1 Hs1 hp st rv e1 => ?_
  split at e1
  · rename_i hc
    obtain ⟨hl, nd⟩ := hc
    cases ha : argsE env1 l with
    | none => rw [ha] at e1; cases e1
    | some e0 =>
      rw [ha, Option.bind_some] at e1
      refine ⟨by rw [rv.length, hl], e0, Hs1, ?_⟩
      have rc := st.rep.call rv ha nd
      cases hF : F e0 with
      | none => rw [hF] at e1; cases e1
      | some o =>
        rw [hF] at e1
        refine ⟨o, rc, hF.symm ▸ rfl, ?_⟩
        cases o with
        | ok a e2 =>
          cases a with
          | bor i => cases e1
          | fz d =>
            cases hb : backE env1 l e2 with
            | none => replace e1 : Option.map _ (backE env1 l e2) = some r1 := e1; rw [hb] at e1; cases e1
            | some env2 =>
              replace e1 : Option.map _ (backE env1 l e2) = some r1 := e1; rw [hb] at e1; cases e1
              exact fun v H' Hs' s x => fin v H' Hs' (st.trans (Stp.call st.rep rv ha nd s hb).1) x
          | fr d =>
            cases hb : backE env1 l e2 with
            | none => replace e1 : Option.map _ (backE env1 l e2) = some r1 := e1; rw [hb] at e1; cases e1
            | some env2 =>
              replace e1 : Option.map _ (backE env1 l e2) = some r1 := e1; rw [hb] at e1; cases e1
              exact fun v H' Hs' s x => fin v H' Hs' (st.trans (Stp.call st.rep rv ha nd s hb).1) (RV.later st (RV.call st.rep rv ha nd s hb (fun _ z => by cases z) x))
        | exc c d e2 =>
          cases hb : backE env1 l e2 with
          | none => replace e1 : Option.map _ (backE env1 l e2) = some r1 := e1; rw [hb] at e1; cases e1
          | some env2 =>
            replace e1 : Option.map _ (backE env1 l e2) = some r1 := e1; rw [hb] at e1; cases e1
            exact fun cls od H' Hs' s x => fin cls od H' Hs' (st.trans (Stp.call st.rep rv ha nd s hb).1) x
  · cases e1
theorem x_call {x : Str} {p0 : Pos} {k : Nat} {f : Addr} {fd : FuncData} {ps : List Str} {n : Nat} {F : M Val} (G : FnOk X.prog X.w X.K X.mg X.base (L2.CX X.prog X.w) k f fd ps (spF (wdOf X) n F)) (hr : Room k X.A) (hg : Gl X x) (hm : X.mg x = some (.ref f)) (hk : PySem.W.keepIn X.K (.ref f) = true) (hb : Binds X.K fd ps []) (tk : Takes X W)
    (ha : PA X (e :: es) (tA (wdOf X) W pa)) (hdb : (x == ("__debug__" : Str)) = false := by decide) (he : starEach (e :: es) X.env = (false, eval e X.env) :: starEach es X.env := by rfl) (hpl : (backTo pos (starEach es X.env)).any (·.1) = false := by rfl) :
    PE X (.Call (.Name x p0) (e :: es) [] pos) (tX (wdOf X) W (xdef n F pa)) :=
  pe_weak (pe_callS G hr hg hm hk hb (fun σ => passAt tk σ) ha hdb he hpl) fun _ _ _ h => tCall_read h
end
end VE
namespace VE
open PySem PySem.Spec PyProof.Rows L2
def small (i : Int) : Bool := decide (-(2 ^ 64) < i ∧ i < 2 ^ 64)
def addD : D → D → Option Val
  | .int a, .int b => some (.fz (.int (a + b)))
  | .str a, .str b => if a.length + b.length ≤ 100000 then some (.fz (.str (a ++ b))) else none
  | .lst a, .lst b => if a.length + b.length ≤ 100000 then some (.fr (.lst (a ++ b))) else none
  | .tup a, .tup b => if a.length + b.length ≤ 100000 ∧ a ≠ [] ∧ b ≠ [] then some (.fz (.tup (a ++ b))) else none
  | _, _ => none
def subD : D → D → Option Val
  | .int a, .int b => some (.fz (.int (a - b)))
  | _, _ => none
def mulD : D → D → Option Val
  | .int a, .int b => if small a = true ∨ small b = true then some (.fz (.int (a * b))) else none
  | _, _ => none
def divD : D → D → Option Val
  | .int a, .int b => if 0 < b ∧ b.natAbs.log2 < 9000 then some (.fz (.int (a / b))) else none
  | _, _ => none
def modD : D → D → Option Val
  | .int a, .int b => if 0 < b then some (.fz (.int (a % b))) else none
  | _, _ => none
def powD : D → D → Option Val
  | .int a, .int b => if 0 ≤ b ∧ b ≤ 1000000 ∧ a.natAbs < 2 ^ 64 then some (.fz (.int (a ^ b.toNat))) else none
  | _, _ => none
def andD : D → D → Option Val
  | .int a, .int b => some (.fz (.int (Builtin.bitAnd a b)))
  | _, _ => none
def cmpD (f : Int → Int → Bool) : D → D → Option Val
  | .int a, .int b => some (.fz (.bl (f a b)))
  | _, _ => none
def ltD : D → D → Option Val
  | .int a, .int b => some (.fz (.bl (decide (a < b))))
  | .str a, .str b => some (.fz (.bl (decide (a.cps.toList < b.cps.toList))))
  | _, _ => none
def gtD : D → D → Option Val
  | .int a, .int b => some (.fz (.bl (decide (b < a))))
  | .str a, .str b => some (.fz (.bl (decide (b.cps.toList < a.cps.toList))))
  | _, _ => none
def leD : D → D → Option Val := cmpD fun a b => decide (a ≤ b)
def geD : D → D → Option Val := cmpD fun a b => decide (b ≤ a)
section
variable {C : Wd} {Hs H : Hp}
theorem atom_end {d : D} {v : V} {Q : VK} (ex : Ex Hs H) (k : ∀ v' H' Hs', Grow Hs H Hs' H' → RVg C H Hs' H' (.fz d) v' → Q v' H') (h : Rp C Hs d v) : Q v H := k v H Hs (Grow.refl ex) h
theorem rpI {i : Int} : Rp C Hs (.int i) (.int i) := by simp only [Rp]
theorem rpB {i : Bool} : Rp C Hs (.bl i) (.bl i) := by simp only [Rp]
theorem rpS {i : Str} : Rp C Hs (.str i) (.str i) := by simp only [Rp]
theorem rpN : Rp C Hs .non .non := by simp only [Rp]
end
def rAddU (K : PySem.W.Frag) : R2 := fun x y H Q => (rI0 (fun i j => .int (i + j)) x y H Q ∨ (∃ i j, x = .str i ∧ y = .str j ∧ i.length + j.length ≤ sizeLine ∧ Q (.str (i ++ j)) H)) ∨ (rCat x y H Q ∨ rCatT K x y H Q)
section
variable {X : Cx}
theorem opU_add : OpR X (binaryOp .Add) (rAddU X.K) := (op_add.or op_add_str).or (op_cat.or op_catT)
theorem RpL.nonempty {C : Wd} {H : Hp} {ds : List D} {xs : List V} (h : RpL C H ds xs) (n : ds ≠ []) : xs ≠ [] := fun z => by
  subst z
  have := h.length
  simp at this
  exact n (List.eq_nil_of_length_eq_zero this.symm)
theorem opT_add {C : Wd} : OpT C (rAddU C.K) addD := by
  intro Hs H x y dx dy val Q ex hx hy g k
  unfold addD at g
  split at g
  · cases g
    obtain rfl := hx.int
    obtain rfl := hy.int
    exact .inl (.inl ⟨_, _, rfl, rfl, atom_end ex k rpI⟩)
  · split at g
    · rename_i hl
      cases g
      obtain rfl := hx.str
      obtain rfl := hy.str
      exact .inl (.inr ⟨_, _, rfl, rfl, size_ok hl, atom_end ex k rpS⟩)
    · cases g
  · split at g
    · rename_i hl
      cases g
      obtain ⟨a, xs, rfl, h1, h2⟩ := hx.lst ex
      obtain ⟨b, ys, rfl, h3, h4⟩ := hy.lst ex
      refine .inr (.inl ⟨a, b, xs, ys, rfl, rfl, h1, h3, size_ok (by rw [h2.length, h4.length]; exact hl), fun p hp => ?_⟩)
      exact k _ _ Hs (Grow.new ex hp) ⟨p, rfl, hp, xBack ex hp, _, upd_same, h2.append h4⟩
    · cases g
  · split at g
    · rename_i hl
      cases g
      obtain ⟨a, xs, rfl, h1, h2⟩ := hx.tup ex
      obtain ⟨b, ys, rfl, h3, h4⟩ := hy.tup ex
      refine .inr (.inr ⟨a, b, xs, ys, rfl, rfl, SqT.of h1, SqT.of h3, h2.nonempty hl.2.1, size_ok (by rw [h2.length, h4.length]; exact hl.1), ?_⟩)
      have hb : ys ≠ [] := h4.nonempty hl.2.2
      first
        | (refine ⟨fun z => absurd z hb, fun _ p hp => ?_⟩
           refine k _ _ (upd Hs p (.tup (xs ++ ys))) (Grow.newF ex hp) ?_
           show Rp _ _ _ _
           simp only [Rp]
           exact ⟨p, _, rfl, upd_same, RpL.mono (Ex.new (xBack ex hp)) _ _ (h2.append h4)⟩)
        | skip
    · cases g
  · cases g
theorem opT_I {C : Wd} {CC : Int → Int → Prop} {f : Int → Int → Int} {g : D → D → Option Val} (h : ∀ dx dy val, g dx dy = some val → ∃ a b, dx = .int a ∧ dy = .int b ∧ CC a b ∧ val = .fz (.int (f a b))) : OpT C (rI CC fun i j => .int (f i j)) g := by
  intro Hs H x y dx dy val Q ex hx hy e k
  obtain ⟨a, b, rfl, rfl, hc, rfl⟩ := h dx dy val e
  obtain rfl := hx.int
  obtain rfl := hy.int
  exact ⟨_, _, rfl, rfl, hc, atom_end ex k rpI⟩
theorem opT_I0 {C : Wd} {f : Int → Int → Int} {g : D → D → Option Val} (h : ∀ dx dy val, g dx dy = some val → ∃ a b, dx = .int a ∧ dy = .int b ∧ val = .fz (.int (f a b))) : OpT C (rI0 fun i j => .int (f i j)) g := by
  intro Hs H x y dx dy val Q ex hx hy e k
  obtain ⟨a, b, rfl, rfl, rfl⟩ := h dx dy val e
  obtain rfl := hx.int
  obtain rfl := hy.int
  exact ⟨_, _, rfl, rfl, atom_end ex k rpI⟩
theorem opT_B0 {C : Wd} {f : Int → Int → Bool} {g : D → D → Option Val} (h : ∀ dx dy val, g dx dy = some val → ∃ a b, dx = .int a ∧ dy = .int b ∧ val = .fz (.bl (f a b))) : OpT C (rI0 fun i j => .bl (f i j)) g := by
  intro Hs H x y dx dy val Q ex hx hy e k
  obtain ⟨a, b, rfl, rfl, rfl⟩ := h dx dy val e
  obtain rfl := hx.int
  obtain rfl := hy.int
  exact ⟨_, _, rfl, rfl, atom_end ex k rpB⟩
theorem opT_sub {C : Wd} : OpT C (rI0 fun i j => .int (i - j)) subD := opT_I0 fun dx dy val e => by
  unfold subD at e; split at e <;> first | (cases e; exact ⟨_, _, rfl, rfl, rfl⟩) | cases e
theorem opT_and {C : Wd} : OpT C (rI0 fun i j => .int (Builtin.bitAnd i j)) andD := opT_I0 fun dx dy val e => by
  unfold andD at e; split at e <;> first | (cases e; exact ⟨_, _, rfl, rfl, rfl⟩) | cases e
theorem opT_mul {C : Wd} : OpT C (rI CMul fun i j => .int (i * j)) mulD := opT_I fun dx dy val e => by
  unfold mulD at e
  split at e
  · split at e
    · rename_i h
      cases e
      refine ⟨_, _, rfl, rfl, ?_, rfl⟩
      rcases h with h | h
      · exact .inl (of_decide_eq_true h)
      · exact .inr (of_decide_eq_true h)
    · cases e
  · cases e
theorem opT_div {C : Wd} : OpT C (rI CDivW fun i j => .int (i / j)) divD := opT_I fun dx dy val e => by
  unfold divD at e
  split at e
  · split at e
    · rename_i h
      cases e
      exact ⟨_, _, rfl, rfl, h, rfl⟩
    · cases e
  · cases e
theorem opT_mod {C : Wd} : OpT C (rI (fun _ j => 0 < j) fun i j => .int (i % j)) modD := opT_I fun dx dy val e => by
  unfold modD at e
  split at e
  · split at e
    · rename_i h
      cases e
      exact ⟨_, _, rfl, rfl, h, rfl⟩
    · cases e
  · cases e
theorem opT_pow {C : Wd} : OpT C (rI CPow fun i j => .int (i ^ j.toNat)) powD := opT_I fun dx dy val e => by
  unfold powD at e
  split at e
  · split at e
    · rename_i h
      cases e
      exact ⟨_, _, rfl, rfl, h, rfl⟩
    · cases e
  · cases e
theorem opT_le {C : Wd} : OpT C (rI0 fun i j => .bl (decide (i ≤ j))) leD := opT_B0 fun dx dy val e => by
  unfold leD cmpD at e; split at e <;> first | (cases e; exact ⟨_, _, rfl, rfl, rfl⟩) | cases e
theorem opT_ge {C : Wd} : OpT C (rI0 fun i j => .bl (decide (j ≤ i))) geD := opT_B0 fun dx dy val e => by
  unfold geD cmpD at e; split at e <;> first | (cases e; exact ⟨_, _, rfl, rfl, rfl⟩) | cases e
def rLtU : R2 := fun x y H Q => rI0 (fun i j => .bl (decide (i < j))) x y H Q ∨ (∃ i j, x = .str i ∧ y = .str j ∧ Q (.bl (decide (i.cps.toList < j.cps.toList))) H)
theorem opU_lt : OpR X (compareOp .Lt) rLtU := op_lt.or op_lt_str
theorem opT_lt {C : Wd} : OpT C rLtU ltD := by
  intro Hs H x y dx dy val Q ex hx hy g k
  unfold ltD at g
  split at g
  · cases g
    obtain rfl := hx.int
    obtain rfl := hy.int
    exact .inl ⟨_, _, rfl, rfl, atom_end ex k rpB⟩
  · cases g
    obtain rfl := hx.str
    obtain rfl := hy.str
    exact .inr ⟨_, _, rfl, rfl, atom_end ex k rpB⟩
  · cases g
def rGtU : R2 := fun x y H Q => rI0 (fun i j => .bl (decide (j < i))) x y H Q ∨ (∃ i j, x = .str i ∧ y = .str j ∧ Q (.bl (decide (j.cps.toList < i.cps.toList))) H)
theorem opU_gt : OpR X (compareOp .Gt) rGtU := op_gt.or op_gt_str
theorem opT_gt {C : Wd} : OpT C rGtU gtD := by
  intro Hs H x y dx dy val Q ex hx hy g k
  unfold gtD at g
  split at g
  · cases g
    obtain rfl := hx.int
    obtain rfl := hy.int
    exact .inl ⟨_, _, rfl, rfl, atom_end ex k rpB⟩
  · cases g
    obtain rfl := hx.str
    obtain rfl := hy.str
    exact .inr ⟨_, _, rfl, rfl, atom_end ex k rpB⟩
  · cases g
mutual
def toPy : D → Option PyData
  | .non => some .none
  | .bl b => some (.bool b)
  | .int i => some (.int i)
  | .str s => some (.str s)
  | .tup ds => (toPys ds).map .tuple
  | .lst ds => (toPys ds).map .list
  | _ => none
def toPys : List D → Option (List PyData)
  | [] => some []
  | d :: ds => (toPy d).bind fun p => (toPys ds).map (p :: ·)
end
mutual
theorem dp_of {C : Wd} {Hs : Hp} : ∀ (d : D) (v : V) (p : PyData), Rp C Hs d v → toPy d = some p → Dp C.K Hs v p
  | .non, v, p, h, e => by simp only [Rp, toPy] at h e; cases e; subst h; exact .non
  | .bl b, v, p, h, e => by simp only [Rp, toPy] at h e; cases e; subst h; exact .bl b
  | .int b, v, p, h, e => by simp only [Rp, toPy] at h e; cases e; subst h; exact .int b
  | .str b, v, p, h, e => by simp only [Rp, toPy] at h e; cases e; subst h; exact .str b
  | .tup ds, v, p, h, e => by
    simp only [Rp, toPy] at h e
    obtain ⟨a, xs, rfl, h1, h2⟩ := h
    cases hq : toPys ds with
    | none => rw [hq] at e; cases e
    | some ps => rw [hq] at e; cases e; exact .tup (SqT.of h1) (dps_of ds xs ps h2 hq)
  | .lst ds, v, p, h, e => by
    simp only [Rp, toPy] at h e
    obtain ⟨a, xs, rfl, h1, h2⟩ := h
    cases hq : toPys ds with
    | none => rw [hq] at e; cases e
    | some ps => rw [hq] at e; cases e; exact .lst (SqL.of h1) (dps_of ds xs ps h2 hq)
  | .scr _, v, p, h, e => by simp only [toPy] at e; cases e
  | .dct _ _, v, p, h, e => by simp only [toPy] at e; cases e
  | .box _, v, p, h, e => by simp only [toPy] at e; cases e
  | .ins _ _, v, p, h, e => by simp only [toPy] at e; cases e
theorem dps_of {C : Wd} {Hs : Hp} : ∀ (ds : List D) (vs : List V) (ps : List PyData), RpL C Hs ds vs → toPys ds = some ps → DpAll C.K Hs vs ps
  | [], vs, ps, h, e => by simp only [RpL, toPys] at h e; cases e; subst h; exact .nil
  | d :: ds, vs, ps, h, e => by
    simp only [RpL, toPys] at h e
    obtain ⟨v, r, rfl, h1, h2⟩ := h
    cases hd : toPy d with
    | none => rw [hd] at e; cases e
    | some q =>
      cases hq : toPys ds with
      | none => rw [hd, hq] at e; cases e
      | some qs => rw [hd, hq] at e; cases e; exact .cons (dp_of d v q h1 hd) (dps_of ds r qs h2 hq)
end
mutual
theorem Dp.ex {K : PySem.W.Frag} {H H' : Hp} (e : Ex H H') : ∀ (p : PyData) (v : V), Dp K H v p → Dp K H' v p
  | .none, _, h => by cases h; exact .non
  | .bool b, _, h => by cases h; exact .bl b
  | .int b, _, h => by cases h; exact .int b
  | .str b, _, h => by cases h; exact .str b
  | .list ps, _, h => by
    cases h with
    | lst h1 h2 => exact .lst (Evl.ex_l e h1) (DpAll.ex e ps _ h2)
  | .tuple ps, _, h => by
    cases h with
    | tup h1 h2 => exact .tup (Evl.ex_t e h1) (DpAll.ex e ps _ h2)
  | .dict _, _, h => by cases h
theorem DpAll.ex {K : PySem.W.Frag} {H H' : Hp} (e : Ex H H') : ∀ (ps : List PyData) (vs : List V), DpAll K H vs ps → DpAll K H' vs ps
  | [], _, h => by cases h; exact .nil
  | p :: ps, _, h => by
    cases h with
    | cons h1 h2 => exact .cons (Dp.ex e p _ h1) (DpAll.ex e ps _ h2)
end
theorem RdV.dp {C : Wd} {Hs H : Hp} {d : D} {v : V} {p : PyData} (ex : Ex Hs H) (h : RdV C Hs H d v) (e : toPy d = some p) : Dp C.K H v p := by
  rcases h with h | ⟨a, rfl, h⟩
  · exact Dp.ex ex _ _ (dp_of d v p h e)
  · cases d with
    | lst ds =>
      obtain ⟨xs, h1, h2⟩ := h
      simp only [toPy] at e
      cases hq : toPys ds with
      | none => rw [hq] at e; cases e
      | some ps => rw [hq] at e; cases e; exact .lst (SqL.of h1) (DpAll.ex ex _ _ (dps_of ds xs ps h2 hq))
    | ins c fs => simp only [toPy] at e; cases e
    | dct t kvs => simp only [toPy] at e; cases e
    | _ => exact h.elim
def eqB0 (d e : D) : Option Bool := (toPy d).bind fun p => (toPy e).bind fun q => if SeqAt.shaped p = true ∧ SeqAt.shaped q = true then some (PyData.eqv p q) else none
def eqB : D → D → Option Bool
  | .str a, .str b => some (decide (a = b))
  | d, e => eqB0 d e
def eqD (d e : D) : Option Val := (eqB d e).map fun b => .fz (.bl b)
def neD (d e : D) : Option Val := (eqB d e).map fun b => .fz (.bl (!b))
theorem eqB0_of {d e : D} {b : Bool} (h : eqB0 d e = some b) : ∃ p q, toPy d = some p ∧ toPy e = some q ∧ SeqAt.shaped p = true ∧ SeqAt.shaped q = true ∧ b = PyData.eqv p q := by
  unfold eqB0 at h
  cases hp : toPy d with
  | none => rw [hp] at h; cases h
  | some p =>
    rw [hp, Option.bind_some] at h
    cases hq : toPy e with
    | none => rw [hq] at h; cases h
    | some q =>
      rw [hq, Option.bind_some] at h
      split at h
      · rename_i hs
        cases h
        exact ⟨p, q, rfl, rfl, hs.1, hs.2, rfl⟩
      · cases h
theorem eqB_of {d e : D} {b : Bool} (h : eqB d e = some b) : (∃ i j, d = .str i ∧ e = .str j ∧ b = decide (i = j)) ∨ eqB0 d e = some b := by
  unfold eqB at h
  split at h
  · cases h; exact .inl ⟨_, _, rfl, rfl, rfl⟩
  · exact .inr h
def rEqU (K : PySem.W.Frag) : R2 := fun x y H Q => rEqD K x y H Q ∨ rEq x y H Q
def rNeU (K : PySem.W.Frag) : R2 := fun x y H Q => rNeD K x y H Q ∨ rNe x y H Q
theorem op_eqU {X : Cx} (hu : X.A.units + 64 < cLine) : OpR X (compareOp .Eq) (rEqU X.K) := (op_eqD hu).or op_eq
theorem op_neU {X : Cx} (hu : X.A.units + 64 < cLine) : OpR X (compareOp .NotEq) (rNeU X.K) := (op_neD hu).or op_ne
theorem opT_eq {C : Wd} : OpT C (rEqU C.K) eqD := by
  intro Hs H x y dx dy val Q ex hx hy g k
  unfold eqD at g
  cases hb : eqB dx dy with
  | none => rw [hb] at g; cases g
  | some b =>
    rw [hb] at g; cases g
    rcases eqB_of hb with ⟨i, j, rfl, rfl, rfl⟩ | hb
    · obtain rfl := hx.str
      obtain rfl := hy.str
      exact .inr ⟨rfl, by rw [show decide (V.str i = V.str j) = decide (i = j) by simp]; exact atom_end ex k rpB⟩
    · obtain ⟨p, q, h1, h2, s1, s2, rfl⟩ := eqB0_of hb
      exact .inl ⟨p, q, hx.dp ex h1, hy.dp ex h2, s1, s2, atom_end ex k rpB⟩
theorem opT_ne {C : Wd} : OpT C (rNeU C.K) neD := by
  intro Hs H x y dx dy val Q ex hx hy g k
  unfold neD at g
  cases hb : eqB dx dy with
  | none => rw [hb] at g; cases g
  | some b =>
    rw [hb] at g; cases g
    rcases eqB_of hb with ⟨i, j, rfl, rfl, rfl⟩ | hb
    · obtain rfl := hx.str
      obtain rfl := hy.str
      exact .inr ⟨rfl, by rw [show decide (V.str i = V.str j) = decide (i = j) by simp]; exact atom_end ex k rpB⟩
    · obtain ⟨p, q, h1, h2, s1, s2, rfl⟩ := eqB0_of hb
      exact .inl ⟨p, q, hx.dp ex h1, hy.dp ex h2, s1, s2, atom_end ex k rpB⟩
def isNon : D → Bool
  | .non => true
  | _ => false
def isD (d e : D) : Option Val := match e with
  | .non => some (.fz (.bl (isNon d)))
  | _ => none
def isntD (d e : D) : Option Val := match e with
  | .non => some (.fz (.bl (!isNon d)))
  | _ => none
theorem RdV.isNon {C : Wd} {Hs H : Hp} {d : D} {v : V} (h : RdV C Hs H d v) : decide (v = .non) = VE.isNon d := by
  rcases h with h | ⟨a, rfl, h⟩
  · cases d <;> simp only [Rp] at h
    case non => subst h; rfl
    case bl => subst h; rfl
    case int => subst h; rfl
    case str => subst h; rfl
    case tup => obtain ⟨a, xs, rfl, _⟩ := h; rfl
    case lst => obtain ⟨a, xs, rfl, _⟩ := h; rfl
    case scr => obtain ⟨a, rfl, _⟩ := h; rfl
    case dct => obtain ⟨a, xs, rfl, _⟩ := h; rfl
    case ins => obtain ⟨a, _, _, _, rfl, _⟩ := h; rfl
  · cases d <;> first | exact h.elim | rfl
theorem opT_is {C : Wd} : OpT C rIsN isD := by
  intro Hs H x y dx dy val Q ex hx hy g k
  unfold isD at g
  split at g
  · cases g
    obtain rfl := hy.non
    refine ⟨rfl, ?_⟩
    rw [hx.isNon]
    exact atom_end ex k rpB
  · cases g
theorem opT_isnt {C : Wd} : OpT C rNotN isntD := by
  intro Hs H x y dx dy val Q ex hx hy g k
  unfold isntD at g
  split at g
  · cases g
    obtain rfl := hy.non
    refine ⟨rfl, ?_⟩
    rw [hx.isNon]
    exact atom_end ex k rpB
  · cases g
def ixD : D → D → Option Val
  | .lst ds, .int i => (atI ds i).map .fz
  | .tup ds, .int i => (atI ds i).map .fz
  | .scr ns, .int i => (atI ns i).map fun n => .fz (.int n)
  | .str s, .int i => if s.length ≤ 100000 then (atI s.cps.toList i).map fun c => .fz (.str ⟨#[c]⟩) else none
  | _, _ => none
theorem RpL.atI {C : Wd} {H : Hp} {ds : List D} {xs : List V} {i : Int} {d : D} (h : RpL C H ds xs) (e : L2.atI ds i = some d) : ∃ v, L2.atI xs i = some v ∧ Rp C H d v := by
  unfold L2.atI at e ⊢
  rw [h.length]
  cases hj : ixN ds.length i with
  | none => rw [hj] at e; cases e
  | some j =>
    rw [hj, Option.bind_some] at e
    exact h.get e
theorem opT_ix {C : Wd} : OpT C (rIx C.K) ixD := by
  intro Hs H x y dx dy val Q ex hx hy g k
  unfold ixD at g
  split at g
  · rename_i ds i
    cases ha : atI ds i with
    | none => rw [ha] at g; cases g
    | some d =>
      rw [ha] at g; cases g
      obtain ⟨a, xs, rfl, h1, h2⟩ := hx.lst ex
      obtain rfl := hy.int
      obtain ⟨v, h3, h4⟩ := h2.atI ha
      exact .inl ⟨a, xs, i, v, rfl, rfl, SqL.of h1, h3, atom_end ex k h4⟩
  · rename_i ds i
    cases ha : atI ds i with
    | none => rw [ha] at g; cases g
    | some d =>
      rw [ha] at g; cases g
      obtain ⟨a, xs, rfl, h1, h2⟩ := hx.tup ex
      obtain rfl := hy.int
      obtain ⟨v, h3, h4⟩ := h2.atI ha
      exact .inr (.inl ⟨a, xs, i, v, rfl, rfl, SqT.of h1, h3, atom_end ex k h4⟩)
  · rename_i ns i
    cases ha : atI ns i with
    | none => rw [ha] at g; cases g
    | some n =>
      rw [ha] at g; cases g
      obtain ⟨a, rfl, h1⟩ := hx.scr ex
      obtain rfl := hy.int
      refine .inl ⟨a, _, i, .int n, rfl, rfl, h1, ?_, atom_end ex k rpI⟩
      unfold atI at ha ⊢
      rw [List.length_map]
      cases hj : ixN ns.length i with
      | none => rw [hj] at ha; cases ha
      | some j =>
        rw [hj, Option.bind_some] at ha
        rw [Option.bind_some, List.getElem?_map, ha]
        rfl
  · split at g
    · rename_i s i hl
      cases ha : atI s.cps.toList i with
      | none => rw [ha] at g; cases g
      | some c =>
        rw [ha] at g; cases g
        obtain rfl := hx.str
        obtain rfl := hy.int
        exact .inr (.inr ⟨s, i, c, rfl, rfl, size_ok hl, ha, atom_end ex k rpS⟩)
    · cases g
  · cases g
end
end VE
namespace VE
open PySem PySem.Spec PyProof.Rows L2
abbrev SHT := Hp → Hp → L2.St → SE → Prop
structure ItV (C : Wd) (J : It) (ds : List D) (SH : SHT) : Prop where
  keep : ∀ {Hs H : Hp} {σ : L2.St} {env : SE} {Hs' H' : Hp} {σ' : L2.St} {env' : SE}, SH Hs H σ env → Ex Hs Hs' → SH Hs' H' σ' env'
  go : ∀ {Hs H : Hp} {σ : L2.St} {env : SE} {i : Nat}, SH Hs H σ env → Ex Hs H → i < ds.length → J.go i H
  stop : ∀ {Hs H : Hp} {σ : L2.St} {env : SE} {i : Nat}, SH Hs H σ env → Ex Hs H → ds.length ≤ i → J.stop i H
  yld : ∀ {Hs H : Hp} {σ : L2.St} {env : SE} {i : Nat} {x : V} {H' : Hp}, SH Hs H σ env → Ex Hs H → J.yld i H x H' → i < ds.length → ∃ d Hs', ds[i]? = some d ∧ Grow Hs H Hs' H' ∧ Rp C Hs' d x
def FinI (C : Wd) (W : WX) (Hs H : Hp) (σ : L2.St) (env : SE) (R : It → Hp → Prop) : Out (List D) → Prop
  | .ok ds env' => ∀ J SH H' Hs', Stp C Hs H σ env Hs' H' σ env' → ItV C J ds SH → SH Hs' H' σ env' → R J H'
  | .exc c d env' => ∀ cls od H' Hs', Stp C Hs H σ env Hs' H' σ env' → ExR C Hs' c d cls od → W cls od σ H'
def tI (C : Wd) (W : WX) (p : M (List D)) : TI := fun σ H R => ∃ env Hs r, Rep C Hs H σ env ∧ p env = some r ∧ FinI C W Hs H σ env R r
theorem pi_weak {X : Cx} {tg e : Expr} {t t' : TI} (h : PI X tg e t) (k : ∀ σ H R, t' σ H R → t σ H R) : PI X tg e t' := ⟨fun pins s σ H R I q => h.run pins s σ H R I (k σ H R q)⟩
theorem pi_alt {X : Cx} {tg e : Expr} {t t' : TI} (h : PI X tg e t) (h' : PI X tg e t') : PI X tg e (fun σ H R => t σ H R ∨ t' σ H R) := ⟨fun pins s σ H R I q => by
  rcases q with q | q
  · exact h.run pins s σ H R I q
  · exact h'.run pins s σ H R I q⟩
theorem Tm.iter {α β : Type} {C : Wd} {W : WX} {S : R0 α β} {p : M α} {f : α → M (List D)} {σ : L2.St} {H : Hp} {R : It → Hp → Prop} {Q' : β → Hp → Prop} {Hs : Hp} {env : SE} {r : Out (List D)} (rp : Rep C Hs H σ env) (e : (p.bind f) env = some r) (fin : FinI C W Hs H σ env R r)
    (k : ∀ a env1 v H1 Hs1, p env = some (.ok a env1) → Stp C Hs H σ env Hs1 H1 σ env1 → S Hs H σ env Hs1 H1 env1 a v → f a env1 = some r → Q' v H1) : Tm C W S p σ H Q' := by
  unfold M.bind at e
  cases hp : p env with
  | none => rw [hp] at e; cases e
  | some o =>
    rw [hp] at e
    cases o with
    | ok a env1 => exact ⟨env, Hs, _, rp, hp, fun v H1 Hs1 st rv => k a env1 v H1 Hs1 hp st rv e⟩
    | exc c d env1 => cases e; exact ⟨env, Hs, _, rp, hp, fin⟩
def itM : Val → M (List D)
  | .fz (.lst ds) => M.pure ds
  | .fz (.tup ds) => M.pure ds
  | .fz (.str s) => M.pure (s.cps.toList.map fun c => .str ⟨#[c]⟩)
  | _ => fun _ => none
def itD (p : M Val) : M (List D) := p.bind itM
theorem itv_list {C : Wd} {a : Addr} {xs : List V} {ds : List D} : ItV C (Itl C.K a) ds (fun Hs _ _ _ => Hs a = some (.lst xs) ∧ RpL C Hs ds xs) where
  keep := fun ⟨h1, h2⟩ s => ⟨s _ _ h1, RpL.mono s _ _ h2⟩
  go := fun {Hs H σ env i} ⟨h1, h2⟩ ex hi => ⟨xs, xs[i]'(by rw [h2.length]; exact hi), SqL.of (ex _ _ h1), List.getElem?_eq_getElem _⟩
  stop := fun ⟨h1, h2⟩ ex hi => ⟨xs, SqL.of (ex _ _ h1), by rw [h2.length]; exact hi⟩
  yld := fun {Hs H σ env i x H'} ⟨h1, h2⟩ ex ⟨e, y⟩ hi => by
    subst e
    obtain ⟨d, e1, e2⟩ := h2.get' (y xs (SqL.of (ex _ _ h1)))
    exact ⟨d, Hs, e1, Grow.refl ex, e2⟩
theorem itv_tup {C : Wd} {a : Addr} {xs : List V} {ds : List D} : ItV C (Itt C.K a) ds (fun Hs _ _ _ => Hs a = some (.tup xs) ∧ RpL C Hs ds xs) where
  keep := fun ⟨h1, h2⟩ s => ⟨s _ _ h1, RpL.mono s _ _ h2⟩
  go := fun {Hs H σ env i} ⟨h1, h2⟩ ex hi => ⟨xs, xs[i]'(by rw [h2.length]; exact hi), SqT.of (ex _ _ h1), List.getElem?_eq_getElem _⟩
  stop := fun ⟨h1, h2⟩ ex hi => ⟨xs, SqT.of (ex _ _ h1), by rw [h2.length]; exact hi⟩
  yld := fun {Hs H σ env i x H'} ⟨h1, h2⟩ ex ⟨e, y⟩ hi => by
    subst e
    obtain ⟨d, e1, e2⟩ := h2.get' (y xs (SqT.of (ex _ _ h1)))
    exact ⟨d, Hs, e1, Grow.refl ex, e2⟩
theorem itv_str {C : Wd} {z : Str} : ItV C (Its z) (z.cps.toList.map fun c => .str ⟨#[c]⟩) (fun _ _ _ _ => True) where
  keep := fun _ _ => trivial
  go := fun _ _ hi => by
    have h : _ < (z.cps.toList.map fun c => D.str ⟨#[c]⟩).length := hi
    rw [List.length_map] at h
    exact (by simpa [Its] using h)
  stop := fun _ _ hi => by
    have h : (z.cps.toList.map fun c => D.str ⟨#[c]⟩).length ≤ _ := hi
    rw [List.length_map] at h
    exact (by simpa [Its] using h)
  yld := fun {Hs H σ env i x H'} _ ex ⟨e, c, hc, ev⟩ hi => by
    subst e; subst ev
    refine ⟨.str ⟨#[c]⟩, Hs, ?_, Grow.refl ex, rpS⟩
    rw [List.getElem?_map]
    have : z.cps.toList[i]? = some c := by simpa using hc
    rw [this]; rfl
theorem itv_range {C : Wd} {lo : Int} {n : Nat} : ItV C (Itr lo n) ((List.range n).map fun i => .int (lo + (i : Nat))) (fun _ _ _ _ => True) where
  keep := fun _ _ => trivial
  go := fun _ _ hi => by simpa [Itr] using hi
  stop := fun _ _ hi => by simpa [Itr] using hi
  yld := fun {Hs H σ env i x H'} _ ex ⟨e, ev⟩ hi => by
    subst e; subst ev
    have hi' : i < n := by simpa using hi
    exact ⟨_, Hs, by rw [List.getElem?_map, List.getElem?_range hi']; rfl, Grow.refl ex, rpI⟩
theorem itv_rangeC {C : Wd} {lo c : Int} {n : Nat} : ItV C (Itc lo c n) ((List.range n).map fun i => .int (lo + (i : Nat) * c)) (fun _ _ _ _ => True) where
  keep := fun _ _ => trivial
  go := fun _ _ hi => by simpa [Itc] using hi
  stop := fun _ _ hi => by simpa [Itc] using hi
  yld := fun {Hs H σ env i x H'} _ ex ⟨e, ev⟩ hi => by
    subst e; subst ev
    have hi' : i < n := by simpa using hi
    exact ⟨_, Hs, by rw [List.getElem?_map, List.getElem?_range hi']; rfl, Grow.refl ex, rpI⟩
def enumL (k : Nat) : List D → List D
  | [] => []
  | d :: ds => .tup [.int (k : Nat), d] :: enumL (k + 1) ds
theorem enumL_len : ∀ (ds : List D) (k : Nat), (enumL k ds).length = ds.length
  | [], _ => rfl
  | d :: ds, k => by simp [enumL, enumL_len ds]
theorem enumL_at : ∀ {ds : List D} {k i : Nat} {d : D}, ds[i]? = some d → (enumL k ds)[i]? = some (.tup [.int ((k + i : Nat) : Nat), d])
  | [], k, i, d, h => by simp at h
  | d0 :: ds, k, 0, d, h => by simp at h; subst h; simp [enumL]
  | d0 :: ds, k, i + 1, d, h => by
    have := enumL_at (ds := ds) (k := k + 1) (i := i) (d := d) (by simpa using h)
    have e : k + 1 + i = k + (i + 1) := by omega
    rw [e] at this
    simpa [enumL] using this
theorem itv_enum {C : Wd} {a : Addr} {xs : List V} {ds : List D} : ItV C (Ite C.K a) (enumL 0 ds) (fun Hs _ _ _ => Hs a = some (.lst xs) ∧ RpL C Hs ds xs) where
  keep := fun ⟨h1, h2⟩ s => ⟨s _ _ h1, RpL.mono s _ _ h2⟩
  go := fun {Hs H σ env i} ⟨h1, h2⟩ ex hi => ⟨xs, xs[i]'(by rw [h2.length]; rw [enumL_len] at hi; exact hi), SqL.of (ex _ _ h1), List.getElem?_eq_getElem _⟩
  stop := fun ⟨h1, h2⟩ ex hi => ⟨xs, SqL.of (ex _ _ h1), by rw [h2.length]; rw [enumL_len] at hi; exact hi⟩
  yld := fun {Hs H σ env i x H'} ⟨h1, h2⟩ ex ⟨T, y, ev, hT, e, q⟩ hi => by
    subst ev; subst e
    obtain ⟨d, e1, e2⟩ := h2.get' (q xs (SqL.of (ex _ _ h1)))
    have g := Grow.newF (o := HO.tup [.int (i : Nat), y]) ex hT
    refine ⟨_, _, enumL_at e1, g, ?_⟩
    rw [Nat.zero_add]
    simp only [Rp]
    exact ⟨T, _, rfl, upd_same, RpL.cons rpI (RpL.cons (Rp.mono g.ex _ _ e2) RpL.nil)⟩
def zipL : List D → List D → List D
  | a :: x, b :: y => .tup [a, b] :: zipL x y
  | _, _ => []
theorem zipL_len : ∀ (x y : List D), (zipL x y).length = min x.length y.length
  | [], _ => by simp [zipL]
  | a :: x, [] => by simp [zipL]
  | a :: x, b :: y => by simp [zipL, zipL_len x y]
theorem zipL_at : ∀ {x y : List D} {i : Nat} {a b : D}, x[i]? = some a → y[i]? = some b → (zipL x y)[i]? = some (.tup [a, b])
  | [], _, i, a, b, h, _ => by simp at h
  | a0 :: x, [], i, a, b, _, h => by simp at h
  | a0 :: x, b0 :: y, 0, a, b, h, h' => by simp at h h'; subst h; subst h'; simp [zipL]
  | a0 :: x, b0 :: y, i + 1, a, b, h, h' => by
    have := zipL_at (x := x) (y := y) (i := i) (a := a) (b := b) (by simpa using h) (by simpa using h')
    simpa [zipL] using this
theorem itv_zip {C : Wd} {a b : Addr} {xs ys : List V} {ds es : List D} : ItV C (Itz C.K a b) (zipL ds es) (fun Hs _ _ _ => (Hs a = some (.lst xs) ∧ RpL C Hs ds xs) ∧ Hs b = some (.lst ys) ∧ RpL C Hs es ys) where
  keep := fun ⟨⟨h1, h2⟩, h3, h4⟩ s => ⟨⟨s _ _ h1, RpL.mono s _ _ h2⟩, s _ _ h3, RpL.mono s _ _ h4⟩
  go := fun {Hs H σ env i} ⟨⟨h1, h2⟩, h3, h4⟩ ex hi => by
    rw [zipL_len] at hi
    have i1 : i < xs.length := by rw [h2.length]; omega
    have i2 : i < ys.length := by rw [h4.length]; omega
    exact ⟨xs, ys, xs[i], ys[i], SqL.of (ex _ _ h1), SqL.of (ex _ _ h3), List.getElem?_eq_getElem _, List.getElem?_eq_getElem _⟩
  stop := fun {Hs H σ env i} ⟨⟨h1, h2⟩, h3, h4⟩ ex hi => by
    rw [zipL_len] at hi
    have q1 := h2.length
    have q2 := h4.length
    exact ⟨xs, ys, SqL.of (ex _ _ h1), SqL.of (ex _ _ h3), by omega⟩
  yld := fun {Hs H σ env i x H'} ⟨⟨h1, h2⟩, h3, h4⟩ ex ⟨T, y, z, ev, hT, e, q1, q2⟩ hi => by
    subst ev; subst e
    obtain ⟨d, e1, e2⟩ := h2.get' (q1 xs (SqL.of (ex _ _ h1)))
    obtain ⟨d', e3, e4⟩ := h4.get' (q2 ys (SqL.of (ex _ _ h3)))
    have g := Grow.newF (o := HO.tup [y, z]) ex hT
    refine ⟨_, _, zipL_at e1 e3, g, ?_⟩
    simp only [Rp]
    exact ⟨T, _, rfl, upd_same, RpL.cons (Rp.mono g.ex _ _ e2) (RpL.cons (Rp.mono g.ex _ _ e4) RpL.nil)⟩
section
variable {X : Cx} {W : WX} {e a b c tg : Expr} {es : List Expr} {p q : M Val} {pa : M (List Val)} {pos p0 : Pos}
theorem i_any (h : PE X e (tX (wdOf X) W p)) : PI X tg e (tI (wdOf X) W (itD p)) :=
  pi_weak (pi_alt (pi_list h) (pi_alt (pi_tup h) (pi_str h))) fun σ H R ⟨env, Hs, r, rp, e, fin⟩ => by
    have e' := e
    unfold itD M.bind at e'
    cases hp : p env with
    | none => rw [hp] at e'; cases e'
    | some o =>
      rw [hp] at e'
      cases o with
      | exc c d env1 =>
        cases e'
        exact .inl ⟨env, Hs, _, rp, hp, fin⟩
      | ok v env1 =>
        have e2 : itM v env1 = some r := e'
        unfold itM at e2
        split at e2
        · cases e2
          refine .inl ⟨env, Hs, _, rp, hp, fun v H1 Hs1 st rv => ?_⟩
          have rv' : Rp (wdOf X) Hs1 (.lst _) v := rv
          simp only [Rp] at rv'
          obtain ⟨a, xs, rfl, h1, h2⟩ := rv'
          exact ⟨a, rfl, ⟨xs, SqL.of (st.rep.ex _ _ h1)⟩, fin _ _ H1 Hs1 st itv_list ⟨h1, h2⟩⟩
        · cases e2
          refine .inr (.inl ⟨env, Hs, _, rp, hp, fun v H1 Hs1 st rv => ?_⟩)
          have rv' : Rp (wdOf X) Hs1 (.tup _) v := rv
          simp only [Rp] at rv'
          obtain ⟨a, xs, rfl, h1, h2⟩ := rv'
          exact ⟨a, rfl, ⟨xs, SqT.of (st.rep.ex _ _ h1)⟩, fin _ _ H1 Hs1 st itv_tup ⟨h1, h2⟩⟩
        · cases e2
          refine .inr (.inr ⟨env, Hs, _, rp, hp, fun v H1 Hs1 st rv => ?_⟩)
          have rv' : Rp (wdOf X) Hs1 (.str _) v := rv
          simp only [Rp] at rv'
          exact ⟨_, rv', fin _ _ H1 Hs1 st itv_str trivial⟩
        · cases e2
def intsV : List Val → Option (List Int)
  | [] => some []
  | .fz (.int i) :: r => (intsV r).map (i :: ·)
  | _ :: _ => none
theorem RVs.intsV {C : Wd} {Hs : Hp} {σ : L2.St} : ∀ {l : List Val} {vs : List V} {ns : List Int}, RVs C Hs σ l vs → VE.intsV l = some ns → vs = ns.map V.int
  | [], vs, ns, h, e => by cases e; cases h; rfl
  | .fz (.int i) :: r, vs, ns, ⟨v, t, e1, h1, h2⟩, e => by
    unfold VE.intsV at e
    cases e2 : VE.intsV r with
    | none => rw [e2] at e; cases e
    | some ms =>
      rw [e2] at e; cases e
      subst e1
      have hv : v = .int i := by simpa [VV, Rp] using h1
      rw [hv, RVs.intsV h2 e2]; rfl
  | .bor _ :: r, vs, ns, h, e => by cases e
  | .fr _ :: r, vs, ns, h, e => by cases e
  | .fz .non :: r, vs, ns, h, e => by cases e
  | .fz (.bl _) :: r, vs, ns, h, e => by cases e
  | .fz (.str _) :: r, vs, ns, h, e => by cases e
  | .fz (.tup _) :: r, vs, ns, h, e => by cases e
  | .fz (.lst _) :: r, vs, ns, h, e => by cases e
  | .fz (.scr _) :: r, vs, ns, h, e => by cases e
  | .fz (.dct _ _) :: r, vs, ns, h, e => by cases e
  | .fz (.ins _ _) :: r, vs, ns, h, e => by cases e
def wee (i : Int) : Bool := decide (-(2 ^ 62) ≤ i ∧ i < 2 ^ 62)
def itR1 (pa : M (List Val)) : M (List D) := pa.bind fun vs env => (intsV vs).bind fun ns => match ns with
  | [j] => if wee j = true then some (.ok ((List.range j.toNat).map fun i => .int ((i : Nat) : Int)) env) else none
  | _ => none
def itR2 (pa : M (List Val)) : M (List D) := pa.bind fun vs env => (intsV vs).bind fun ns => match ns with
  | [i, j] => if wee i = true ∧ wee j = true then some (.ok ((List.range (j - i).toNat).map fun k => .int (i + (k : Nat))) env) else none
  | _ => none
theorem i_range1 (hg : Gl X "range") (hm : X.mg "range" = none) (ha : PA X [a] (tA (wdOf X) W pa)) (hs : starEach [a] X.env = [(false, eval a X.env)] := by rfl) : PI X tg (.Call (.Name "range" p0) [a] [] pos) (tI (wdOf X) W (itR1 pa)) :=
  pi_weak (pi_range1 hg hm ha hs) fun σ H R ⟨env, Hs, r, rp, e, fin⟩ => by
    refine Tm.iter rp e fin fun l env1 vs H1 Hs1 hp st rv e1 => ?_
    cases hn : intsV l with
    | none => rw [hn] at e1; cases e1
    | some ns =>
      rw [hn, Option.bind_some] at e1
      have hv := RVs.intsV rv hn
      split at e1
      · rename_i j
        split at e1
        · rename_i hw
          cases e1
          have hw := of_decide_eq_true hw
          have it := itv_range (C := wdOf X) (lo := 0) (n := j.toNat)
          simp only [Int.zero_add] at it
          exact ⟨j, hv, hw.1, hw.2, fin _ _ H1 Hs1 st it trivial⟩
        · cases e1
      · cases e1
theorem i_range2 (hg : Gl X "range") (hm : X.mg "range" = none) (ha : PA X [a, b] (tA (wdOf X) W pa)) (hs : starEach [a, b] X.env = [(false, eval a X.env), (false, eval b X.env)] := by rfl) (hs2 : starEach [b] X.env = [(false, eval b X.env)] := by rfl) :
    PI X tg (.Call (.Name "range" p0) [a, b] [] pos) (tI (wdOf X) W (itR2 pa)) :=
  pi_weak (pi_range2 hg hm ha hs hs2) fun σ H R ⟨env, Hs, r, rp, e, fin⟩ => by
    refine Tm.iter rp e fin fun l env1 vs H1 Hs1 hp st rv e1 => ?_
    cases hn : intsV l with
    | none => rw [hn] at e1; cases e1
    | some ns =>
      rw [hn, Option.bind_some] at e1
      have hv := RVs.intsV rv hn
      split at e1
      · rename_i i j
        split at e1
        · rename_i hw
          cases e1
          have h1 := of_decide_eq_true hw.1
          have h2 := of_decide_eq_true hw.2
          exact ⟨i, j, hv, ⟨h1.1, h1.2, h2.1, h2.2⟩, fin _ _ H1 Hs1 st itv_range trivial⟩
        · cases e1
      · cases e1
end
end VE
namespace VE
open PySem PySem.Spec PyProof.Rows L2
abbrev TgD := D → SE → Option SE
def Apart (ids : List Nat) (σ σ' : L2.St) : Prop := σ'.length = σ.length ∧ ∀ j : Nat, j ∉ ids → σ'[j]? = σ[j]?
def tG (C : Wd) (ids : List Nat) (t : TgD) : TG := fun v σ H Q => ∃ env Hs d env', Rep C Hs H σ env ∧ Rp C Hs d v ∧ t d env = some env' ∧ ∀ σ' Hs', Stp C Hs H σ env Hs' H σ' env' → Apart ids σ σ' → Q σ' H
abbrev TgsD := List D → SE → Option SE
def tGs (C : Wd) (ids : List Nat) (t : TgsD) : TGs := fun vs σ H Q => ∃ env Hs ds env', Rep C Hs H σ env ∧ RpL C Hs ds vs ∧ t ds env = some env' ∧ ∀ σ' Hs', Stp C Hs H σ env Hs' H σ' env' → Apart ids σ σ' → Q σ' H
theorem pg_weak {X : Cx} {e : Expr} {t t' : TG} (h : PG X e t) (k : ∀ v σ H Q, t' v σ H Q → t v σ H Q) : PG X e t' := ⟨fun pins s σ H v u Q I r q => h.run pins s σ H v u Q I r (k v σ H Q q)⟩
theorem pgs_weak {X : Cx} {es : List Expr} {t t' : TGs} (h : PGs X es t) (k : ∀ v σ H Q, t' v σ H Q → t v σ H Q) : PGs X es t' := ⟨fun pins s σ H v u Q I r q => h.run pins s σ H v u Q I r (k v σ H Q q)⟩
def gN (i : Nat) : TgD := fun d env => stow i (.fz d) env
theorem g_name {X : Cx} {i : Nat} {x : Str} {pos : Pos} (hN : X.N.Nodup) (hi : X.N[i]? = some x) (hx : Loc X.env.scope x) (hf : X.fn x = true ∨ X.env.scope.names.lookup x = some .local := by first | exact .inl rfl | exact .inr rfl | assumption) : PG X (.Name x pos) (tG (wdOf X) [i] (gN i)) :=
  pg_weak (pg_name hN hi hx hf) fun v σ H Q ⟨env, Hs, d, env', rp, hd, e, k⟩ => k _ Hs ((Stp.refl rp).stow e hd) ⟨List.length_set, fun j hj => List.getElem?_set_ne fun z => hj (by simp [z])⟩
def gsN : TgsD := fun ds env => match ds with
  | [] => some env
  | _ => none
def gsC (t : TgD) (u : TgsD) : TgsD := fun ds env => match ds with
  | [] => none
  | d :: r => (t d env).bind fun e => u r e
theorem gs_nil {X : Cx} : PGs X [] (tGs (wdOf X) [] gsN) := pgs_weak pgs_nil fun vs σ H Q ⟨env, Hs, ds, env', rp, hd, e, k⟩ => by
  unfold gsN at e
  split at e
  · cases e
    simp only [RpL] at hd
    exact ⟨hd, k σ Hs (Stp.refl rp) ⟨rfl, fun _ _ => rfl⟩⟩
  · cases e
theorem gs_cons {X : Cx} {e : Expr} {es : List Expr} {t : TgD} {u : TgsD} {l1 l2 : List Nat} (h1 : PG X e (tG (wdOf X) l1 t)) (h2 : PGs X es (tGs (wdOf X) l2 u)) (hs : (assignEach (e :: es) X.env).map (·.2) = assign e X.env :: (assignEach es X.env).map (·.2) := by rfl) : PGs X (e :: es) (tGs (wdOf X) (l1 ++ l2) (gsC t u)) :=
  pgs_weak (pgs_cons h1 h2 hs) fun vs σ H Q ⟨env, Hs, ds, env', rp, hd, e, k⟩ => by
    unfold gsC at e
    split at e
    · cases e
    · rename_i d r
      simp only [RpL] at hd
      obtain ⟨v, vr, rfl, q1, q2⟩ := hd
      cases ht : t d env with
      | none => rw [ht] at e; cases e
      | some env1 =>
        rw [ht, Option.bind_some] at e
        exact ⟨v, vr, rfl, env, Hs, d, env1, rp, q1, ht, fun σ1 Hs1 s1 a1 => ⟨env1, Hs1, r, env', s1.rep, RpL.mono s1.ex _ _ q2, e, fun σ2 Hs2 s2 a2 => k σ2 Hs2 (s1.trans s2) ⟨a2.1.trans a1.1, fun j hj => (a2.2 j fun z => hj (List.mem_append_right _ z)).trans (a1.2 j fun z => hj (List.mem_append_left _ z))⟩⟩⟩
def gT (n : Nat) (u : TgsD) : TgD := fun d env => match d with
  | .tup ds => if ds.length = n then u ds env else none
  | .lst ds => if ds.length = n then u ds env else none
  | _ => none
theorem pg_or {X : Cx} {e : Expr} {t t' : TG} (h : PG X e t) (h' : PG X e t') : PG X e (fun v σ H Q => t v σ H Q ∨ t' v σ H Q) :=
  ⟨fun pins s σ H v u Q I r q => q.elim (fun q => h.run pins s σ H v u Q I r q) fun q => h'.run pins s σ H v u Q I r q⟩
theorem g_tup {X : Cx} {es : List Expr} {k : Nat} {u : TgsD} {n : Nat} {pos : Pos} {ids : List Nat} (hc : X.calm = true) (h : PGs X es (tGs (wdOf X) ids u)) (hn : (assignEach es X.env).length = n := by rfl) (hst : (assignEach es X.env).findIdx? (·.1) = none := by rfl) : PG X (.Tuple es k pos) (tG (wdOf X) ids (gT n u)) :=
  pg_weak (pg_or (pg_tup hc h hn hst) (pg_unl hc h hn hst)) fun v σ H Q ⟨env, Hs, d, env', rp, hd, e, k⟩ => by
    unfold gT at e
    split at e
    · split at e
      · rename_i hl
        simp only [Rp] at hd
        obtain ⟨a, xs, rfl, h1, h2⟩ := hd
        exact .inl ⟨a, xs, rfl, SqT.of (rp.ex _ _ h1), by rw [h2.length]; exact hl, env, Hs, _, env', rp, h2, e, k⟩
      · cases e
    · split at e
      · rename_i hl
        simp only [Rp] at hd
        obtain ⟨a, xs, rfl, h1, h2⟩ := hd
        exact .inr ⟨a, xs, rfl, SqL.of (rp.ex _ _ h1), by rw [h2.length]; exact hl, env, Hs, _, env', rp, h2, e, k⟩
      · cases e
    · cases e
section
variable {X : Cx} {W : WX} {e a b c tg iter : Expr} {es : List Expr} {p q p3 : M Val} {pa : M (List Val)} {pos p0 : Pos} {body : List Stmt} {B : SP} {t : TgD} {it : M (List D)} {ids : List Nat}
def sAsg (p : M Val) (t : TgD) : SP := sWith p fun v env => match v with
  | .fz d => (t d env).map .nx
  | _ => none
theorem s_asg (he : PE X e (tX (wdOf X) W p)) (hg : PG X tg (tG (wdOf X) ids t)) (hs : swapsWithSole [tg] e pos.line X.env = pure false := by rfl) (hw : swappedStores [tg] e X.env = pure none := by rfl)
    (h1 : (assignEach [tg] X.env).map (·.2) = [assign tg X.env] := by rfl) : PS X (.Assign [tg] e pos) (tS (wdOf X) W (sAsg p t)) :=
  ps_weak (ps_asg he hg hs hw h1) fun D σ H ⟨env, Hs, r1, rp, e, fin⟩ => by
    refine Tm.with rp e fin fun va env1 v H1 Hs1 hp st rv e1 => ?_
    split at e1
    · rename_i d
      cases ht : t d env1 with
      | none => rw [ht] at e1; cases e1
      | some env2 =>
        rw [ht] at e1; cases e1
        exact ⟨env1, Hs1, d, env2, st.rep, rv, ht, fun σ' Hs' s2 _ => fin σ' H1 Hs' (st.trans s2)⟩
    · cases e1
theorem RV.carry {C : Wd} {Hs H Hs1 H1 Hs2 H2 : Hp} {σ σ1 σ2 : L2.St} {env env1 env2 : SE} {x : Val} {v : V} (s2 : Stp C Hs1 H1 σ1 env1 Hs2 H2 σ2 env2) (hb : ∀ i, x ≠ .bor i) (h : RV C Hs H σ env Hs1 H1 σ1 env1 x v) : RV C Hs H σ env Hs2 H2 σ2 env2 x v := by
  cases x with
  | fz d => exact Rp.mono s2.ex _ _ h
  | bor i => exact absurd rfl (hb i)
  | fr d =>
    obtain ⟨a, rfl, o, w⟩ := h
    have k : ∀ x ∈ ft H1 d a, H2 x = H1 x ∧ Hs2 x = none ∧ ¬ Own H2 σ2 env2 x := fun x hx => by
      obtain ⟨u, hu⟩ := o.there hx
      obtain ⟨k1, k2, k3⟩ := s2.fr x u hu (o.out x hx) (w x hx).1
      exact ⟨k1.trans hu.symm, k2, k3⟩
    obtain ⟨q1, q2⟩ := o.mono s2.ex (fun x hx => (k x hx).1) fun x hx => (k x hx).2.1
    exact ⟨a, rfl, q1, fun x hx => by rw [q2] at hx; exact ⟨(k x hx).2.2, (w x hx).2⟩⟩
theorem stow_nb {i : Nat} {v : Val} {env env' : SE} (h : stow i v env = some env') : ∀ j, v ≠ .bor j := fun j z => by
  subst z
  unfold stow at h
  split at h
  · split at h <;> cases h
  · cases h
theorem RV.after {C : Wd} {Hs H Hs1 H1 Hs2 H2 : Hp} {σ : L2.St} {env env1 env2 env3 : SE} {i : Nat} {x y : Val} {v u : V} (s1 : Stp C Hs H σ env Hs1 H1 σ env1) (s2 : Stp C Hs1 H1 σ env1 Hs2 H2 σ env2) (hx : RV C Hs H σ env Hs1 H1 σ env1 x v)
    (hy : RV C Hs1 H1 σ env1 Hs2 H2 σ env2 y u) (h : stow i x env2 = some env3) (hb : ∀ j, y ≠ .bor j) : RV C Hs H σ env Hs2 H2 (σ.set i (some v)) env3 y u := by
  cases y with
  | fz d => exact hy
  | bor j => exact absurd rfl (hb j)
  | fr d =>
    obtain ⟨a, rfl, o, w⟩ := hy
    refine ⟨a, rfl, o, fun z hz => ⟨fun ⟨j, bj, c, e1, e2, e3, e4⟩ => ?_, (w z hz).2.later s1⟩⟩
    unfold stow at h
    split at h
    · rename_i hi
      have hσ : i < σ.length := by rw [← s2.rep.len]; exact hi
      split at h
      · cases h
      · cases x with
        | bor z => cases h
        | fz dx =>
          cases h
          rcases set_at e1 with ⟨_, q, _⟩ | ⟨y, q⟩
          · cases q; cases e2
          · rw [List.getElem?_set_ne (Ne.symm y)] at e3
            exact (w z hz).1 ⟨j, bj, c, q, e2, e3, e4⟩
        | fr dx =>
          cases h
          rcases set_at e1 with ⟨y, q, _⟩ | ⟨y, q⟩
          · subst y
            cases q
            rw [List.getElem?_set_self hσ] at e3
            obtain ⟨ax, rfl, ox, wx⟩ := hx
            cases e3
            have k : ∀ x ∈ ft H1 dx c, H2 x = H1 x := fun x hx => by
              obtain ⟨u, hu⟩ := ox.there hx
              exact (s2.fr x u hu (ox.out x hx) (wx x hx).1).1.trans hu.symm
            have q2 := (TrAt.mono s2.ex dx c ox.tr k).2
            have e4' : z ∈ ft H1 dx c := by rw [← q2]; exact e4
            obtain ⟨uo, huo⟩ := ox.there e4'
            exact (wx z e4').1 ((w z hz).2 uo huo (ox.out z e4'))
          · rw [List.getElem?_set_ne (Ne.symm y)] at e3
            exact (w z hz).1 ⟨j, bj, c, q, e2, e3, e4⟩
    · cases h
def sPar (i j : Nat) (p q : M Val) : SP := sWith p fun v => sWith q fun u env => (stow i v env).bind fun e1 => (stow j u e1).map .nx
theorem s_par {i j : Nat} {x y : Str} {px py pt : Pos} {kt k2 pt2} (hc : X.calm = true) (hN : X.N.Nodup) (hi : X.N[i]? = some x) (hj : X.N[j]? = some y) (hij : i ≠ j) (hx : X.env.scope.names.lookup x = some .local) (hy : X.env.scope.names.lookup y = some .local)
    (ha : PE X a (tX (wdOf X) W p)) (hb : PE X b (tX (wdOf X) W q)) (hw : swappedStores [.Tuple [.Name x px, .Name y py] kt pt] (.Tuple [a, b] k2 pt2) X.env = pure (some [x, y]))
    (hs : swapsWithSole [.Tuple [.Name x px, .Name y py] kt pt] (.Tuple [a, b] k2 pt2) pos.line X.env = pure false := by rfl) (s1 : starEach (a :: [b]) X.env = (false, eval a X.env) :: starEach [b] X.env := by rfl) (s2 : starEach (b :: []) X.env = (false, eval b X.env) :: starEach [] X.env := by rfl) :
    PS X (.Assign [.Tuple [.Name x px, .Name y py] kt pt] (.Tuple [a, b] k2 pt2) pos) (tS (wdOf X) W (sPar i j p q)) :=
  ps_weak (ps_par hc hN hi hj hij hx hy (pa_cons ha (pa_cons hb pa_nil s2) s1) hw hs) fun D σ H ⟨env, Hs, r1, rp, e, fin⟩ => by
    refine Tm.with rp e fin fun va env1 v H1 Hs1 hp st rv e1 => ?_
    refine Tm.with st.rep e1 (fin.later st) fun vb env2 u H2 Hs2 hq st2 ru e2 => ?_
    cases h1 : stow i va env2 with
    | none => rw [h1] at e2; cases e2
    | some env3 =>
      rw [h1, Option.bind_some] at e2
      cases h2 : stow j vb env3 with
      | none => rw [h2] at e2; cases e2
      | some env4 =>
        rw [h2] at e2; cases e2
        have sA := (st.trans st2).stow h1 (RV.carry st2 (stow_nb h1) rv)
        exact ⟨v, u, rfl, fin _ H2 Hs2 (sA.stow h2 (RV.after st st2 rv ru h1 (stow_nb h2)))⟩
def forRun (t : TgD) (b : SP) : List D → SE → Option SOut
  | [], env => some (.nx env)
  | d :: ds, env => (t d env).bind fun e1 => match b e1 with
    | some (.nx e2) => forRun t b ds e2
    | some (.ct e2) => forRun t b ds e2
    | some (.bk e2) => some (.nx e2)
    | r => r
def sFor (it : M (List D)) (t : TgD) (b : SP) : SP := sWith it fun ds env => forRun t b ds env
theorem s_for (hp : PassesOwn (model X.prog X.w) X.A X.env X.xe) (hc : X.calm = true) (hi : PI X tg iter (tI (wdOf X) W it)) (hg : PG X tg (tG (wdOf X) ids t)) (hb : PSs X body (tS (wdOf X) W B)) (hs : ∀ x, foldedSetIterable iter X.env x = pure x := by intro _; rfl) :
    PS X (.For tg iter body [] pos) (tS (wdOf X) W (sFor it t B)) :=
  ps_weak (ps_for hp hc hi hg hb hs) fun D σ H ⟨env, Hs, r1, rp, e, fin⟩ => by
    unfold sFor sWith at e
    cases hp : it env with
    | none => rw [hp] at e; cases e
    | some o =>
      rw [hp] at e
      cases o with
      | exc c d env1 =>
        cases e
        exact ⟨env, Hs, _, rp, hp, fun cls od H' Hs' s x => fin cls od σ H' Hs' s x⟩
      | ok ds env1 =>
        have e : forRun t B ds env1 = some r1 := e
        refine ⟨env, Hs, _, rp, hp, fun J SH H1 Hs1 st iv sh => ?_⟩
        refine ⟨fun i m σ' H' => m = ds.length - i ∧ i ≤ ds.length ∧ ∃ Hs' env', Stp (wdOf X) Hs H σ env Hs' H' σ' env' ∧ SH Hs' H' σ' env' ∧ forRun t B (ds.drop i) env' = some r1, ⟨ds.length, by simp, Nat.zero_le _, Hs1, env1, st, sh, e⟩, ?_⟩
        rintro i m σ' H' ⟨rfl, hi, Hs', env', s', sh', e'⟩
        by_cases hlt : i < ds.length
        · refine .inr ⟨iv.go sh' s'.rep.ex hlt, _, fun σ2 H2 n2 => ⟨ds.length - (i + 1), by omega, n2⟩, fun x H2 y => ?_⟩
          obtain ⟨d, Hs2, hd, g, hx⟩ := iv.yld sh' s'.rep.ex y hlt
          have sg := Stp.grow s'.rep g
          have hdrop : ds.drop i = d :: ds.drop (i + 1) := by
            rw [List.drop_eq_getElem_cons hlt]
            rw [List.getElem?_eq_getElem hlt] at hd
            rw [Option.some.inj hd]
          rw [hdrop] at e'
          unfold forRun at e'
          cases ht : t d env' with
          | none => rw [ht] at e'; cases e'
          | some env2 =>
            rw [ht, Option.bind_some] at e'
            refine ⟨env', Hs2, d, env2, sg.rep, hx, ht, fun σ3 Hs3 s3 _ => ?_⟩
            have s03 := (s'.trans sg).trans s3
            cases hB : B env2 with
            | none => rw [hB] at e'; cases e'
            | some o =>
              rw [hB] at e'
              refine ⟨env2, Hs3, o, s3.rep, hB, ?_⟩
              cases o with
              | nx e2 => exact fun σ4 H4 Hs4 s4 => ⟨rfl, by omega, Hs4, e2, s03.trans s4, iv.keep sh' ((sg.trans s3).trans s4).ex, e'⟩
              | ct e2 => exact fun σ4 H4 Hs4 s4 => ⟨rfl, by omega, Hs4, e2, s03.trans s4, iv.keep sh' ((sg.trans s3).trans s4).ex, e'⟩
              | bk e2 => cases e'; exact fun σ4 H4 Hs4 s4 => fin σ4 H4 Hs4 (s03.trans s4)
              | rt v e2 => cases e'; exact fun x σ4 H4 Hs4 s4 rv => fin x σ4 H4 Hs4 (s03.trans s4) (rv.later s03)
              | exc c d e2 => cases e'; exact fun cls od σ4 H4 Hs4 s4 x => fin cls od σ4 H4 Hs4 (s03.trans s4) x
        · have hil : i = ds.length := by omega
          subst hil
          rw [List.drop_length] at e'
          cases e'
          exact .inl ⟨iv.stop sh' s'.rep.ex (Nat.le_refl _), fin σ' H' Hs' s'⟩
def whRun (c : M Bool) (b : SP) : Nat → SE → Option SOut
  | 0, _ => none
  | n + 1, env => match c env with
    | some (.ok true e1) => (match b e1 with
      | some (.nx e2) => whRun c b n e2
      | some (.ct e2) => whRun c b n e2
      | some (.bk e2) => some (.nx e2)
      | r => r)
    | some (.ok false e1) => some (.nx e1)
    | some (.exc x d e1) => some (.exc x d e1)
    | none => none
def sWhile (n : Nat) (c : M Bool) (b : SP) : SP := fun env => whRun c b n env
theorem s_while {n : Nat} {tb : M Bool} (hp : PassesOwn (model X.prog X.w) X.A X.env X.xe) (hc : PT X c (tT (wdOf X) W tb)) (hb : PSs X body (tS (wdOf X) W B)) : PS X (.While c body [] pos) (tS (wdOf X) W (sWhile n tb B)) :=
  ps_weak (ps_while hp hc hb) fun D σ H ⟨env, Hs, r1, rp, e, fin⟩ => by
    refine ⟨fun m σ' H' => ∃ Hs' env', Stp (wdOf X) Hs H σ env Hs' H' σ' env' ∧ whRun tb B m env' = some r1, ⟨n, Hs, env, Stp.refl rp, e⟩, ?_⟩
    rintro m σ' H' ⟨Hs', env', s', e'⟩
    cases m with
    | zero => cases e'
    | succ m =>
      unfold whRun at e'
      cases hcE : tb env' with
      | none => rw [hcE] at e'; cases e'
      | some o =>
        rw [hcE] at e'
        refine ⟨env', Hs', o, s'.rep, hcE, ?_⟩
        cases o with
        | exc x d e1 => cases e'; exact fun cls od H2 Hs2 s2 y => fin cls od σ' H2 Hs2 (s'.trans s2) y
        | ok k e1 =>
          intro v H2 Hs2 s2 rv
          cases (show k = v from rv)
          cases k with
          | false => cases e'; exact fin σ' H2 Hs2 (s'.trans s2)
          | true =>
            have s02 := s'.trans s2
            show ∃ N : L2.St → Hp → Prop, _
            refine ⟨fun σ2 H2 => ∃ Hs' env', Stp (wdOf X) Hs H σ env Hs' H2 σ2 env' ∧ whRun tb B m env' = some r1, fun σ2 H2 n2 => ⟨m, Nat.lt_succ_self m, n2⟩, ?_⟩
            cases hB : B e1 with
            | none =>
              have e' : (match B e1 with
                | some (.nx e2) => whRun tb B m e2
                | some (.ct e2) => whRun tb B m e2
                | some (.bk e2) => some (.nx e2)
                | r => r) = some r1 := e'
              rw [hB] at e'; cases e'
            | some o =>
              have e' : (match B e1 with
                | some (.nx e2) => whRun tb B m e2
                | some (.ct e2) => whRun tb B m e2
                | some (.bk e2) => some (.nx e2)
                | r => r) = some r1 := e'
              rw [hB] at e'
              refine ⟨e1, Hs2, o, s2.rep, hB, ?_⟩
              cases o with
              | nx e2 => exact fun σ4 H4 Hs4 s4 => ⟨Hs4, e2, s02.trans s4, e'⟩
              | ct e2 => exact fun σ4 H4 Hs4 s4 => ⟨Hs4, e2, s02.trans s4, e'⟩
              | bk e2 => cases e'; exact fun σ4 H4 Hs4 s4 => fin σ4 H4 Hs4 (s02.trans s4)
              | rt v e2 => cases e'; exact fun x σ4 H4 Hs4 s4 rv => fin x σ4 H4 Hs4 (s02.trans s4) (rv.later s02)
              | exc c d e2 => cases e'; exact fun cls od σ4 H4 Hs4 s4 x => fin cls od σ4 H4 Hs4 (s02.trans s4) x
end
end VE
namespace VE
open PySem PySem.Spec PyProof.Rows L2
def Bnd.put : Bnd → D → Bnd
  | .fz _, d => .fz d
  | .own _, d => .own d
  | .io _, d => .io d
theorem Bnd.put_ow (b : Bnd) (d : D) : (b.put d).ow = b.ow := by cases b <;> rfl
theorem Bnd.put_d (b : Bnd) (d : D) : (b.put d).d = d := by cases b <;> rfl
theorem Stp.writeT {C : Wd} {Hs H : Hp} {σ : L2.St} {env : SE} {i : Nat} {b : Bnd} {a y : Addr} {o : HO} {d : D} (r : Rep C Hs H σ env) (e : env[i]? = some (some b)) (hb : b.ow = true) (ea : σ[i]? = some (some (.ref a))) (hy : y ∈ ft H b.d a)
    (ho : TrAt C Hs (upd H y o) d a) (nd : (ft (upd H y o) d a).Nodup) (sub0 : ∀ x ∈ ft (upd H y o) d a, x ∈ ft H b.d a) : Stp C Hs H σ env Hs (upd H y o) σ (env.set i (some (b.put d))) := by
  obtain ⟨a', ea', hd⟩ := r.held e hb
  rw [ea] at ea'; cases ea'
  have own : ∀ x ∈ ft H b.d a, Own H σ env x := fun x hx => ⟨i, b, a, e, hb, ea, hx⟩
  have n := hd.out y hy
  have back : ∀ {j : Nat} {c : Bnd}, (env.set i (some (b.put d)))[j]? = some (some c) → (j = i ∧ c = b.put d) ∨ (j ≠ i ∧ env[j]? = some (some c)) := fun {j c} q => by
    rcases set_at q with ⟨z, w, _⟩ | ⟨z, w⟩
    · exact .inl ⟨z, (Option.some.inj w).symm⟩
    · exact .inr ⟨z, w⟩
  have rest : ∀ (j : Nat) (c : Bnd) (x : Addr), j ≠ i → env[j]? = some (some c) → c.ow = true → σ[j]? = some (some (.ref x)) → Held C Hs (upd H y o) c.d x ∧ ft (upd H y o) c.d x = ft H c.d x := fun j c x z w hc ex => by
    obtain ⟨x', ex', hx⟩ := r.held w hc
    rw [ex] at ex'; cases ex'
    exact hx.mono (Evl.Ex.refl _) (fun u hu => upd_ne fun q => z (r.sep j i c b x a y w e hc hb ex ea (q ▸ hu) hy)) hx.out
  have sub : ∀ x, Own (upd H y o) σ (env.set i (some (b.put d))) x → Own H σ env x := fun x ⟨j, bj, c, e1, e2, e3, e4⟩ => by
    rcases back e1 with ⟨z, w⟩ | ⟨z, w⟩
    · subst z; subst w
      rw [ea] at e3; cases e3
      rw [Bnd.put_d] at e4
      exact own x (sub0 x e4)
    · rw [(rest j bj c z w e2 e3).2] at e4
      exact ⟨j, bj, c, w, e2, e3, e4⟩
  refine ⟨Evl.Ex.refl _, ⟨fun x u q => ?_, by rw [List.length_set]; exact r.len, fun j c ej => ?_, fun j k bj bk x z u e1 e2 e3 e4 e5 e6 e7 e8 => ?_⟩, fun x u h1 h2 h3 => ⟨?_, h2, fun z => h3 (sub x z)⟩, fun j d' ej => ?_⟩
  · rw [upd_ne (ne_of_none q n)]; exact r.ex x u q
  · rcases back ej with ⟨z, w⟩ | ⟨z, w⟩
    · subst z; subst w
      exact ⟨_, ea, by unfold RB; rw [if_pos (by rw [Bnd.put_ow]; exact hb)]; exact ⟨a, rfl, by rw [Bnd.put_d]; exact ⟨ho, fun x hx => hd.out x (sub0 x hx), nd⟩⟩⟩
    · obtain ⟨v, ev, q⟩ := r.at_ j c w
      refine ⟨v, ev, ?_⟩
      unfold RB at q ⊢
      by_cases hc : c.ow = true
      · rw [if_pos hc] at q ⊢
        obtain ⟨x, rfl, ox⟩ := q
        exact ⟨x, rfl, (rest j c x z w hc ev).1⟩
      · rw [if_neg hc] at q ⊢
        exact q
  · have w : ∀ {j : Nat} {c : Bnd} {x : Addr}, (env.set i (some (b.put d)))[j]? = some (some c) → c.ow = true → σ[j]? = some (some (.ref x)) → u ∈ ft (upd H y o) c.d x → ∃ c', env[j]? = some (some c') ∧ c'.ow = true ∧ u ∈ ft H c'.d x := fun {j c x} q h ex hu => by
      rcases back q with ⟨z, y⟩ | ⟨z, y⟩
      · subst z; subst y
        rw [ea] at ex; cases ex
        rw [Bnd.put_d] at hu
        exact ⟨b, e, hb, sub0 u hu⟩
      · rw [(rest j c x z y h ex).2] at hu
        exact ⟨c, y, h, hu⟩
    obtain ⟨c1, p1, p2, p3⟩ := w e1 e3 e5 e7
    obtain ⟨c2, q1, q2, q3⟩ := w e2 e4 e6 e8
    exact r.sep j k c1 c2 x z u p1 q1 p2 q2 e5 e6 p3 q3
  · rw [upd_ne (fun z => h3 (by rw [z]; exact own y hy))]; exact h1
  · rcases back ej with ⟨z, w⟩ | ⟨z, w⟩
    · subst z
      cases b with
      | fz _ => cases w
      | own _ => cases w
      | io d0 => exact ⟨rfl, d0, e⟩
    · exact ⟨rfl, d', w⟩
theorem Stp.write {C : Wd} {Hs H : Hp} {σ : L2.St} {env : SE} {i : Nat} {b : Bnd} {a : Addr} {o : HO} {d : D} (r : Rep C Hs H σ env) (e : env[i]? = some (some b)) (hb : b.ow = true) (ea : σ[i]? = some (some (.ref a))) (n : Hs a = none) (ho : OwnAt C Hs (upd H a o) d a) :
    Stp C Hs H σ env Hs (upd H a o) σ (env.set i (some (b.put d))) := by
  obtain ⟨q1, q2⟩ := ho.tree
  exact Stp.writeT r e hb ea ft_self q1 (by rw [q2]; simp) fun x hx => by rw [q2] at hx; rw [List.mem_singleton.mp hx]; exact ft_self
section
variable {X : Cx} {W : WX} {e a b c tg iter : Expr} {es : List Expr} {p q p3 : M Val} {pa : M (List Val)} {pos p0 : Pos}
def ownL (env : SE) (i : Nat) : Option (List D) := match env[i]? with
  | some (some (.own (.lst ds))) => if ds.all noBox = true then some ds else none
  | some (some (.io (.lst ds))) => if ds.all noBox = true then some ds else none
  | _ => none
theorem Rep.ownL {C : Wd} {Hs H : Hp} {σ : L2.St} {env : SE} {i : Nat} {ds : List D} (r : Rep C Hs H σ env) (e : ownL env i = some ds) : ∃ a xs b, env[i]? = some (some b) ∧ b.ow = true ∧ b.d = .lst ds ∧ σ[i]? = some (some (.ref a)) ∧ Hs a = none ∧ H a = some (.lst xs) ∧ RpL C Hs ds xs := by
  have go : ∀ (b : Bnd) (l : List D), env[i]? = some (some b) → b.ow = true → b.d = .lst l → l.all noBox = true → ∃ a xs, σ[i]? = some (some (.ref a)) ∧ Hs a = none ∧ H a = some (.lst xs) ∧ RpL C Hs l xs := fun b l h1 h2 h3 h4 => by
    obtain ⟨a, ea, o⟩ := r.held h1 h2
    rw [h3] at o
    obtain ⟨xs, e1, e2⟩ := o.tr.flat (d := .lst l) h4
    exact ⟨a, xs, ea, o.out a ft_self, e1, e2⟩
  unfold VE.ownL at e
  split at e
  · rename_i l he
    split at e
    · rename_i hf
      cases e
      obtain ⟨a, xs, q⟩ := go _ _ he rfl rfl hf
      exact ⟨a, xs, _, he, rfl, rfl, q⟩
    · cases e
  · rename_i l he
    split at e
    · rename_i hf
      cases e
      obtain ⟨a, xs, q⟩ := go _ _ he rfl rfl hf
      exact ⟨a, xs, _, he, rfl, rfl, q⟩
    · cases e
  · cases e
def putE (env : SE) (i : Nat) (d : D) : SE := match env[i]? with
  | some (some b) => env.set i (some (b.put d))
  | _ => env
def xMut (i : Nat) (g : List D → List D → Option (List D × D)) (pa : M (List Val)) : M Val := fun env0 => (ownL env0 i).bind fun _ => (pa.bind fun vs env => (ownL env i).bind fun ds => (fzs vs).bind fun as => (g ds as).map fun r => .ok (.fz r.2) (putE env i (.lst r.1))) env0
def MutT (C : Wd) (r : V → List V → Hp → VK → Prop) (g : List D → List D → Option (List D × D)) : Prop := ∀ (Hs H : Hp) (l : Addr) (xs vs : List V) (ds as ds' : List D) (d : D) (Q : VK), Ex Hs H → H l = some (.lst xs) → RpL C Hs ds xs → RpL C Hs as vs → g ds as = some (ds', d) →
  (∀ v xs', RpL C Hs ds' xs' → Rp C Hs d v → Q v (upd H l (.lst xs'))) → r (.ref l) vs H Q
theorem mut_read {C : Wd} {r : V → List V → Hp → VK → Prop} {g : List D → List D → Option (List D × D)} {i : Nat} {σ : L2.St} {H : Hp} {Q : VK} (hg : MutT C r g) (h : Tm C W (RVx C) (xMut i g pa) σ H Q) :
    tBM C.K "list" r (tVar i) (tA C W pa) σ H Q := by
  obtain ⟨env, Hs, r1, rp, e, fin⟩ := h
  unfold xMut at e
  cases h0 : ownL env i with
  | none => rw [h0] at e; cases e
  | some ds0 =>
    rw [h0, Option.bind_some] at e
    obtain ⟨a, xs0, b0, _, _, _, ea, _, ha, _⟩ := rp.ownL h0
    refine ⟨_, ea, .inl ⟨rfl, xs0, SqL.of ha⟩, ?_⟩
    refine Tm.bindAt rp e fin fun vs env1 us H1 Hs1 hp st rv e1 => ?_
    cases h1 : ownL env1 i with
    | none => rw [h1] at e1; cases e1
    | some ds =>
      rw [h1, Option.bind_some] at e1
      obtain ⟨a', xs, b, eb, ob, bd, ea', n, ha', hx⟩ := st.rep.ownL h1
      rw [ea] at ea'
      cases ea'
      cases hf : fzs vs with
      | none => rw [hf] at e1; cases e1
      | some as =>
        rw [hf, Option.bind_some] at e1
        cases hgv : g ds as with
        | none => rw [hgv] at e1; cases e1
        | some res =>
          obtain ⟨ds', d⟩ := res
          rw [hgv] at e1
          cases e1
          refine hg Hs1 H1 a xs us ds as ds' d Q st.rep.ex ha' hx (RVs.fzs rv hf) hgv fun v xs' q1 q2 => ?_
          have sw : Stp C Hs1 H1 σ env1 Hs1 (upd H1 a (.lst xs')) σ (putE env1 i (.lst ds')) := by
            unfold putE
            rw [eb]
            exact Stp.write st.rep eb ob ea n ⟨xs', upd_same, q1⟩
          exact fin v _ Hs1 (st.trans sw) q2
theorem x_mut {i : Nat} {r : V → List V → Hp → VK → Prop} {g : List D → List D → Option (List D × D)} (h : PE X e (tBM X.K "list" r (tVar i) (tA (wdOf X) W pa))) (hg : MutT (wdOf X) r g) : PE X e (tX (wdOf X) W (xMut i g pa)) := pe_weak h fun _ _ _ q => mut_read hg q
def gApp : List D → List D → Option (List D × D) := fun ds as => match as with
  | [d] => if ds.length < 100000 then some (ds ++ [d], .non) else none
  | _ => none
theorem mutT_app {C : Wd} : MutT C rAppend gApp := by
  intro Hs H l xs vs ds as ds' d Q ex h1 h2 h3 hg k
  unfold gApp at hg
  split at hg
  · rename_i d0
    split at hg
    · rename_i hl
      cases hg
      simp only [RpL] at h3
      obtain ⟨v, r, rfl, q1, rfl⟩ := h3
      exact ⟨l, xs, v, rfl, rfl, h1, Nat.lt_of_lt_of_le (by rw [h2.length]; exact hl) (by decide : 100000 ≤ sizeLine), k .non _ (h2.append (RpL.cons q1 RpL.nil)) rpN⟩
    · cases hg
  · cases hg
def stK (i : Nat) (d : D) (k : Val) : SP := fun env => match k with
  | .fz (.int j) => (ownL env i).bind fun ds => (ixN ds.length j).map fun m => .nx (putE env i (.lst (ds.set m d)))
  | _ => none
def stV (i : Nat) (q : M Val) (v : Val) : SP := fun env => match v with
  | .fz d => (ownL env i).bind fun _ => sWith q (stK i d) env
  | _ => none
def sSt (i : Nat) (p q : M Val) : SP := sWith p (stV i q)
theorem s_st {i : Nat} {st : Stmt} (h : PS X st (tAsg (tX (wdOf X) W p) (gSub (tVar i) (tX (wdOf X) W q) rSetL))) : PS X st (tS (wdOf X) W (sSt i p q)) :=
  ps_weak h fun En σ H ⟨env, Hs, r1, rp, e, fin⟩ => by
    refine Tm.with rp e fin fun va env1 v H1 Hs1 hp st rv e1 => ?_
    unfold stV at e1
    split at e1
    · rename_i d
      cases h0 : ownL env1 i with
      | none => rw [h0] at e1; cases e1
      | some ds0 =>
        rw [h0, Option.bind_some] at e1
        obtain ⟨a, xs0, b0, _, _, _, ea, _, _, _⟩ := st.rep.ownL h0
        refine ⟨_, ea, ?_⟩
        refine Tm.with st.rep e1 (fin.later st) fun kk env2 w H2 Hs2 hq st2 rk e2 => ?_
        unfold stK at e2
        split at e2
        · rename_i j
          cases h1 : ownL env2 i with
          | none => rw [h1] at e2; cases e2
          | some ds =>
            rw [h1, Option.bind_some] at e2
            obtain ⟨a', xs, b, eb, ob, bd, ea', n, hax, hx⟩ := st2.rep.ownL h1
            rw [ea] at ea'
            cases ea'
            cases hm : ixN ds.length j with
            | none => rw [hm] at e2; cases e2
            | some m =>
              rw [hm] at e2
              cases e2
              have ew : w = .int j := by simpa [RV, Rp] using rk
              refine ⟨a, xs, j, m, rfl, ew, hax, by rw [hx.length]; exact hm, ?_⟩
              have sw : Stp (wdOf X) Hs2 H2 σ env2 Hs2 (upd H2 a (.lst (xs.set m v))) σ (putE env2 i (.lst (ds.set m d))) := by
                unfold putE
                rw [eb]
                exact Stp.write st2.rep eb ob ea n ⟨_, upd_same, hx.set m (Rp.mono st2.ex _ _ rv)⟩
              exact fin σ _ Hs2 ((st.trans st2).trans sw)
        · cases e2
    · cases e1
end
def wipeE (env : SE) : List Nat → SE
  | [] => env
  | v :: vs => (wipeE env vs).set v none
def restE (env0 e : SE) : List Nat → SE
  | [] => e
  | v :: vs => (restE env0 e vs).set v (env0.getD v none)
def okV (env : SE) (vs : List Nat) : Bool := vs.all fun j => match env[j]? with
  | some (some b) => !b.ow
  | _ => true
theorem wipeE_len (env : SE) : ∀ vs : List Nat, (wipeE env vs).length = env.length
  | [] => rfl
  | v :: vs => by unfold wipeE; rw [List.length_set, wipeE_len env vs]
theorem restE_len (env0 e : SE) : ∀ vs : List Nat, (restE env0 e vs).length = e.length
  | [] => rfl
  | v :: vs => by unfold restE; rw [List.length_set, restE_len env0 e vs]
theorem wipeE_at {env : SE} {j : Nat} {b : Bnd} : ∀ {vs : List Nat}, (wipeE env vs)[j]? = some (some b) → j ∉ vs ∧ env[j]? = some (some b)
  | [], h => ⟨by simp, h⟩
  | v :: vs, h => by
    unfold wipeE at h
    rcases set_at h with ⟨_, w, _⟩ | ⟨z, w⟩
    · cases w
    · obtain ⟨q1, q2⟩ := wipeE_at w
      exact ⟨fun m => (List.mem_cons.mp m).elim z q1, q2⟩
theorem wipeE_out {env : SE} {j : Nat} : ∀ {vs : List Nat}, j ∉ vs → (wipeE env vs)[j]? = env[j]?
  | [], _ => rfl
  | v :: vs, h => by
    unfold wipeE
    rw [List.getElem?_set_ne fun e => h (by rw [e]; exact List.mem_cons_self)]
    exact wipeE_out fun m => h (List.mem_cons_of_mem _ m)
theorem restE_at {env0 e : SE} {j : Nat} {b : Bnd} : ∀ {vs : List Nat}, (restE env0 e vs)[j]? = some (some b) → (j ∈ vs ∧ env0[j]? = some (some b)) ∨ (j ∉ vs ∧ e[j]? = some (some b))
  | [], h => .inr ⟨by simp, h⟩
  | v :: vs, h => by
    unfold restE at h
    rcases set_at h with ⟨z, w, _⟩ | ⟨z, w⟩
    · subst z
      refine .inl ⟨List.mem_cons_self, ?_⟩
      rw [List.getD_eq_getElem?_getD] at w
      cases q : env0[j]? with
      | none => rw [q] at w; cases w
      | some y => rw [q] at w; cases w; rfl
    · rcases restE_at w with ⟨q1, q2⟩ | ⟨q1, q2⟩
      · exact .inl ⟨List.mem_cons_of_mem _ q1, q2⟩
      · exact .inr ⟨fun m => (List.mem_cons.mp m).elim z q1, q2⟩
theorem okV_at {env : SE} {vs : List Nat} {j : Nat} {b : Bnd} (h : okV env vs = true) (hj : j ∈ vs) (e : env[j]? = some (some b)) : b.ow = false := by
  have := List.all_eq_true.mp h j hj
  rw [e] at this
  simpa using this
theorem wipe_in {σ : L2.St} {j : Nat} : ∀ {vs : List Nat}, j ∈ vs → j < σ.length → (wipe σ vs)[j]? = some none
  | v :: vs, h, hl => by
    unfold wipe
    by_cases z : v = j
    · subst z
      exact List.getElem?_set_self (by rw [wipe_length]; exact hl)
    · rw [List.getElem?_set_ne z]
      exact wipe_in ((List.mem_cons.mp h).resolve_left fun e => z e.symm) hl
theorem wipe_apart {σ σ2 : L2.St} {vs ids : List Nat} (hs : ∀ j, j ∈ ids → j ∈ vs) (a : Apart ids (wipe σ vs) σ2) : wipe σ2 vs = wipe σ vs ∧ ∀ j, j ∉ vs → σ2[j]? = σ[j]? := by
  have out : ∀ j, j ∉ vs → σ2[j]? = σ[j]? := fun j hj => by
    rw [a.2 j fun z => hj (hs j z)]
    exact wipe_out hj
  have hl : σ2.length = σ.length := by rw [a.1, wipe_length]
  refine ⟨List.ext_getElem? fun j => ?_, out⟩
  by_cases hj : j ∈ vs
  · by_cases hlt : j < σ.length
    · rw [wipe_in hj hlt, wipe_in hj (by rw [hl]; exact hlt)]
    · rw [List.getElem?_eq_none (by rw [wipe_length, hl]; omega), List.getElem?_eq_none (by rw [wipe_length]; omega)]
  · rw [wipe_out hj, wipe_out hj, out j hj]
section
variable {C : Wd} {Hs H Hs' H' : Hp} {σ σ2 : L2.St} {env e' : SE} {vs : List Nat}
theorem Rep.wipe (r : Rep C Hs H σ env) : Rep C Hs H (L2.wipe σ vs) (wipeE env vs) := by
  refine ⟨r.ex, by rw [wipeE_len, wipe_length]; exact r.len, fun j b e => ?_, fun j k bj bk a c x e1 e2 e3 e4 e5 e6 e7 e8 => ?_⟩
  · obtain ⟨q1, q2⟩ := wipeE_at e
    rw [wipe_out q1]
    exact r.at_ j b q2
  · obtain ⟨p1, p2⟩ := wipeE_at e1
    obtain ⟨q1, q2⟩ := wipeE_at e2
    rw [wipe_out p1] at e5
    rw [wipe_out q1] at e6
    exact r.sep j k bj bk a c x p2 q2 e3 e4 e5 e6 e7 e8
theorem own_wipe {a : Addr} (h : Own H (L2.wipe σ vs) (wipeE env vs) a) : Own H σ env a := by
  obtain ⟨j, b, c, e1, e2, e3, e4⟩ := h
  obtain ⟨q1, q2⟩ := wipeE_at e1
  rw [wipe_out q1] at e3
  exact ⟨j, b, c, q2, e2, e3, e4⟩
theorem Stp.block (r : Rep C Hs H σ env) (ok : okV env vs = true) (s : Stp C Hs H (L2.wipe σ vs) (wipeE env vs) Hs' H' σ2 e') (hl : σ2.length = σ.length) (out : ∀ j, j ∉ vs → σ2[j]? = σ[j]?) : Stp C Hs H σ env Hs' H' σ (restE env e' vs) := by
  have sub : ∀ a, Own H' σ (restE env e' vs) a → Own H' σ2 e' a := fun a ⟨j, b, c, e1, e2, e3, e4⟩ => by
    rcases restE_at e1 with ⟨q1, q2⟩ | ⟨q1, q2⟩
    · rw [okV_at ok q1 q2] at e2; cases e2
    · exact ⟨j, b, c, q2, e2, by rw [out j q1]; exact e3, e4⟩
  refine ⟨s.ex, ⟨s.rep.ex, ?_, fun j b e => ?_, fun j k bj bk a c x e1 e2 e3 e4 e5 e6 e7 e8 => ?_⟩, fun a o h1 h2 h3 => ?_, fun j d' e => ?_⟩
  · rw [restE_len, s.rep.len, hl]
  · rcases restE_at e with ⟨q1, q2⟩ | ⟨q1, q2⟩
    · obtain ⟨v, ev, h⟩ := r.at_ j b q2
      refine ⟨v, ev, ?_⟩
      have hb := okV_at ok q1 q2
      unfold RB at h ⊢
      rw [if_neg (by rw [hb]; exact Bool.false_ne_true)] at h ⊢
      exact Rp.mono s.ex _ _ h
    · obtain ⟨v, ev, h⟩ := s.rep.at_ j b q2
      exact ⟨v, by rw [← out j q1]; exact ev, h⟩
  · rcases restE_at e1 with ⟨p1, p2⟩ | ⟨p1, p2⟩
    · rw [okV_at ok p1 p2] at e3; cases e3
    · rcases restE_at e2 with ⟨q1, q2⟩ | ⟨q1, q2⟩
      · rw [okV_at ok q1 q2] at e4; cases e4
      · exact s.rep.sep j k bj bk a c x p2 q2 e3 e4 (by rw [out j p1]; exact e5) (by rw [out k q1]; exact e6) e7 e8
  · obtain ⟨k1, k2, k3⟩ := s.fr a o h1 h2 fun z => h3 (own_wipe z)
    exact ⟨k1, k2, fun z => k3 (sub a z)⟩
  · rcases restE_at e with ⟨q1, q2⟩ | ⟨q1, q2⟩
    · have := okV_at ok q1 q2
      cases this
    · obtain ⟨_, d, e3⟩ := s.io j d' q2
      obtain ⟨_, e4⟩ := wipeE_at e3
      exact ⟨rfl, d, e4⟩
theorem Stp.bump {env' : SE} {σ' : L2.St} {a : Addr} {o : HO} (s : Stp C Hs H σ env Hs' H' σ' env') (hD : H a = none) (n : Hs' a = none) (w : ¬ Own H' σ' env' a) : Stp C Hs H σ env Hs' (upd H' a o) σ' env' := by
  have r := s.rep
  obtain ⟨R, same⟩ := r.same (Hs' := Hs') (H' := upd H' a o) (Ex.refl _) (fun x u q => by rw [upd_ne (ne_of_none q n)]; exact r.ex x u q) fun x hx => ⟨upd_ne fun z => w (z ▸ hx), (Own.there r hx).1⟩
  refine ⟨s.ex, R, fun x u h1 h2 h3 => ?_, s.io⟩
  obtain ⟨k1, k2, k3⟩ := s.fr x u h1 h2 h3
  exact ⟨by rw [upd_ne (ne_of_none h1 hD)]; exact k1, k2, fun z => k3 ((same x).mp z)⟩
theorem Own.bump {env' : SE} {σ' : L2.St} {a : Addr} {o : HO} (r : Rep C Hs' H' σ' env') (n : Hs' a = none) (w : ¬ Own H' σ' env' a) : ¬ Own (upd H' a o) σ' env' a := fun z =>
  w (((r.same (Hs' := Hs') (H' := upd H' a o) (Ex.refl _) (fun x u q => by rw [upd_ne (ne_of_none q n)]; exact r.ex x u q) fun x hx => ⟨upd_ne fun z => w (z ▸ hx), (Own.there r hx).1⟩).2 a).mp z)
end
end VE
namespace VE
open PySem PySem.Spec PyProof.Rows L2
abbrev WNo : WX := fun _ _ _ _ => False
def lcRun (vs : List Nat) (t : TgD) (c : M Bool) (el : M Val) : List D → List D → SE → Option (Out Val)
  | [], acc, env => some (.ok (.fr (.lst acc)) env)
  | d :: ds, acc, env => if okV env vs = true then (t d (wipeE env vs)).bind fun e1 => match c e1 with
      | some (.ok true e2) => (match el e2 with
        | some (.ok (.fz y) e3) => lcRun vs t c el ds (acc ++ [y]) (restE env e3 vs)
        | _ => none)
      | some (.ok false e2) => lcRun vs t c el ds acc (restE env e2 vs)
      | _ => none
    else none
def xLc (it : M (List D)) (vs : List Nat) (t : TgD) (c : M Bool) (el : M Val) : M Val := fun env => match it env with
  | some (.ok ds e) => if ds.length ≤ 50000 then lcRun vs t c el ds [] e else none
  | some (.exc x d e) => some (.exc x d e)
  | none => none
def bYes : M Bool := M.pure true
theorem pts_weak {X : Cx} {ifs : List Expr} {t t' : TT} (h : PTs X ifs t) (k : ∀ σ H Q, t' σ H Q → t σ H Q) : PTs X ifs t' := ⟨fun pins s σ H Q I q => h.run pins s σ H Q I (k σ H Q q)⟩
theorem ts_nil {X : Cx} {W : WX} : PTs X [] (tT (wdOf X) W bYes) := pts_weak pts_nil fun σ H Q ⟨env, Hs, r1, rp, e, fin⟩ => by
  cases e
  exact fin true H Hs (Stp.refl rp) rfl
theorem ts_one {X : Cx} {W : WX} {c : Expr} {p : M Bool} (h : PT X c (tT (wdOf X) W p)) : PTs X [c] (tT (wdOf X) W p) := pts_one h
theorem lc_read {C : Wd} {W : WX} {it : M (List D)} {vs ids : List Nat} {t : TgD} {c : M Bool} {el : M Val} {σ : L2.St} {H : Hp} {Q : VK} (hs : ∀ j, j ∈ ids → j ∈ vs) (h : Tm C W (RVx C) (xLc it vs t c el) σ H Q) :
    tLc (tI C W it) (tG C ids t) (tT C WNo c) (tX C WNo el) vs σ H Q := by
  obtain ⟨env, Hs, r1, rp, e, fin⟩ := h
  unfold xLc at e
  cases hp : it env with
  | none => rw [hp] at e; cases e
  | some o =>
    rw [hp] at e
    cases o with
    | exc x d env1 =>
      cases e
      exact ⟨env, Hs, _, rp, hp, fin⟩
    | ok ds env1 =>
      have e : (if ds.length ≤ 50000 then lcRun vs t c el ds [] env1 else none) = some r1 := e
      split at e
      · rename_i hlen
        refine ⟨env, Hs, _, rp, hp, fun J SH H1 Hs1 st iv sh Dl hD => ?_⟩
        have hN : Hs1 Dl = none := xBack st.rep.ex hD
        have hW : ¬ Own H1 σ env1 Dl := fun z => by
          obtain ⟨_, u, hu⟩ := Own.there st.rep z
          rw [hD] at hu; cases hu
        refine ⟨fun i m H' => m = ds.length - i ∧ i ≤ ds.length ∧ ∃ Hs' env' acc xs, Stp C Hs1 H1 σ env1 Hs' H' σ env' ∧ SH Hs' H' σ env' ∧ H' Dl = some (.lst xs) ∧ Hs' Dl = none ∧ ¬ Own H' σ env' Dl ∧ RpL C Hs' acc xs ∧ acc.length ≤ i ∧ lcRun vs t c el (ds.drop i) acc env' = some r1,
          ⟨ds.length, by simp, Nat.zero_le _, Hs1, env1, [], [], (Stp.refl st.rep).bump hD hN hW, iv.keep sh (Ex.refl _), upd_same, hN, Own.bump st.rep hN hW, RpL.nil, Nat.le_refl 0, e⟩, ?_⟩
        rintro i m H' ⟨rfl, hi, Hs', env', acc, xs, s', sh', hDl, nD, wD, hacc, hal, e'⟩
        by_cases hlt : i < ds.length
        · refine .inr ⟨iv.go sh' s'.rep.ex hlt, _, fun H2 n2 => ⟨ds.length - (i + 1), by omega, n2⟩, fun x H2 y => ?_⟩
          obtain ⟨d, Hs2, hd, g, hx⟩ := iv.yld sh' s'.rep.ex y hlt
          have sg := Stp.grow s'.rep g
          have hdrop : ds.drop i = d :: ds.drop (i + 1) := by
            rw [List.drop_eq_getElem_cons hlt]
            rw [List.getElem?_eq_getElem hlt] at hd
            rw [Option.some.inj hd]
          rw [hdrop] at e'
          unfold lcRun at e'
          split at e'
          · rename_i hok
            cases ht : t d (wipeE env' vs) with
            | none => rw [ht] at e'; cases e'
            | some e1 =>
              rw [ht, Option.bind_some] at e'
              refine ⟨_, Hs2, d, e1, sg.rep.wipe, hx, ht, fun σ2 Hs3 s3 ap => ?_⟩
              obtain ⟨hw, out⟩ := wipe_apart hs ap
              have hl2 : σ2.length = σ.length := by rw [ap.1, wipe_length]
              refine ⟨hw, ?_⟩
              -- a state of the block is one of the def
              have lift : ∀ {Hs4 H4 : Hp} {e4 : SE}, Stp C Hs3 H2 σ2 e1 Hs4 H4 σ2 e4 → Stp C Hs1 H1 σ env1 Hs4 H4 σ (restE env' e4 vs) ∧ SH Hs4 H4 σ (restE env' e4 vs) ∧ H4 Dl = some (.lst xs) ∧ Hs4 Dl = none ∧ ¬ Own H4 σ (restE env' e4 vs) Dl ∧ RpL C Hs4 acc xs := fun {Hs4 H4 e4} s4 => by
                have sb := Stp.block sg.rep hok (s3.trans s4) hl2 out
                have sD := (sg.trans sb).fr Dl _ hDl nD wD
                exact ⟨s'.trans (sg.trans sb), iv.keep sh' (sg.trans sb).ex, sD.1, sD.2.1, sD.2.2, RpL.mono (sg.trans sb).ex _ _ hacc⟩
              cases hc : c e1 with
              | none => rw [hc] at e'; cases e'
              | some oc =>
                rw [hc] at e'
                refine ⟨e1, Hs3, oc, s3.rep, hc, ?_⟩
                cases oc with
                | exc x d e2 => cases e'
                | ok k e2 =>
                  intro kv H4 Hs4 s4 ek
                  cases (show k = kv from ek)
                  cases k with
                  | false =>
                    have e' : lcRun vs t c el (ds.drop (i + 1)) acc (restE env' e2 vs) = some r1 := e'
                    obtain ⟨q1, q2, q3, q4, q5, q6⟩ := lift s4
                    exact ⟨rfl, by omega, Hs4, _, acc, xs, q1, q2, q3, q4, q5, q6, by omega, e'⟩
                  | true =>
                    have e' : (match el e2 with
                      | some (.ok (.fz y) e3) => lcRun vs t c el (ds.drop (i + 1)) (acc ++ [y]) (restE env' e3 vs)
                      | _ => none) = some r1 := e'
                    show tX C WNo el σ2 H4 _
                    cases hel : el e2 with
                    | none => rw [hel] at e'; cases e'
                    | some oe =>
                      rw [hel] at e'
                      refine ⟨e2, Hs4, oe, s4.rep, hel, ?_⟩
                      cases oe with
                      | exc x d e3 => cases e'
                      | ok val e3 =>
                        cases val with
                        | fr _ => cases e'
                        | bor _ => cases e'
                        | fz yv =>
                          have e' : lcRun vs t c el (ds.drop (i + 1)) (acc ++ [yv]) (restE env' e3 vs) = some r1 := e'
                          intro v H5 Hs5 s5 rv
                          obtain ⟨q1, q2, q3, q4, q5, q6⟩ := lift (s4.trans s5)
                          have hz : xs.length < sizeLine := Nat.lt_of_lt_of_le (by rw [hacc.length]; omega) (by decide : 50001 ≤ sizeLine)
                          refine ⟨xs, q3, hz, rfl, by omega, Hs5, _, acc ++ [yv], xs ++ [v], q1.bump hD q4 q5, iv.keep sh q1.ex, upd_same, q4, Own.bump q1.rep q4 q5, q6.append (RpL.cons rv RpL.nil), by simp; omega, e'⟩
          · cases e'
        · have hil : i = ds.length := by omega
          subst hil
          rw [List.drop_length] at e'
          cases e'
          have own : OwnAt C Hs' H' (.lst acc) Dl := ⟨xs, hDl, hacc⟩
          refine .inl ⟨iv.stop sh' s'.rep.ex (Nat.le_refl _), fin _ H' Hs' (st.trans s') ⟨Dl, rfl, Held.one own nD, fun x hx => ?_⟩⟩
          rw [own.tree.2] at hx
          cases List.mem_singleton.mp hx
          refine ⟨wD, fun u h1 h2 => ?_⟩
          by_cases z : Own H σ env Dl
          · exact z
          · have := (st.fr Dl u h1 h2 z).1
            rw [hD] at this; cases this
      · cases e
section
variable {X : Cx} {W : WX} {e : Expr} {st : Stmt} {vs ids : List Nat} {it : M (List D)} {t : TgD} {c : M Bool} {el : M Val}
theorem x_lc (h : PE X e (tLc (tI (wdOf X) W it) (tG (wdOf X) ids t) (tT (wdOf X) WNo c) (tX (wdOf X) WNo el) vs)) (hs : ∀ j, j ∈ ids → j ∈ vs) : PE X e (tX (wdOf X) W (xLc it vs t c el)) := pe_weak h fun _ _ _ q => lc_read hs q
theorem s_setLc {i : Nat} (h : PS X st (tAsg (tLc (tI (wdOf X) W it) (tG (wdOf X) ids t) (tT (wdOf X) WNo c) (tX (wdOf X) WNo el) vs) (gName i))) (hs : ∀ j, j ∈ ids → j ∈ vs) : PS X st (tS (wdOf X) W (sSet i (xLc it vs t c el))) :=
  ps_weak h fun En σ H ⟨env, Hs, r1, rp, e, fin⟩ => by
    have h2 : Tm (wdOf X) W (RVx (wdOf X)) (xLc it vs t c el) σ H (fun x H1 => gName i x σ H1 En.nx) := by
      refine Tm.with rp e fin fun a env1 v H1 Hs1 hp st rv e1 => ?_
      cases hw : stow i a env1 with
      | none => rw [hw] at e1; cases e1
      | some env2 =>
        rw [hw] at e1
        cases e1
        exact fin _ H1 Hs1 (st.stow hw rv)
    exact lc_read hs h2
end
end VE
namespace VE
open PySem PySem.Spec PyProof.Rows L2
theorem RdL.one {C : Wd} {Hs H : Hp} {d : D} {vs : List V} (h : RdL C Hs H [d] vs) : ∃ v, vs = [v] ∧ RdV C Hs H d v := by
  obtain ⟨v, r, rfl, q, e⟩ := h
  cases (show r = [] from e)
  exact ⟨v, rfl, q⟩
theorem RdL.two {C : Wd} {Hs H : Hp} {d e : D} {vs : List V} (h : RdL C Hs H [d, e] vs) : ∃ v w, vs = [v, w] ∧ RdV C Hs H d v ∧ RdV C Hs H e w := by
  obtain ⟨v, r, rfl, q, w, r2, rfl, q2, e2⟩ := h
  cases (show r2 = [] from e2)
  exact ⟨v, w, rfl, q, q2⟩
def lenD : List D → Option Val
  | [.lst ds] => some (.fz (.int (ds.length : Nat)))
  | [.tup ds] => some (.fz (.int (ds.length : Nat)))
  | [.scr ns] => some (.fz (.int (ns.length : Nat)))
  | [.str s] => if s.length ≤ 100000 then some (.fz (.int (s.length : Nat))) else none
  | _ => none
def rLenU (K : PySem.W.Frag) : List V → Hp → VK → Prop := fun xs H Q => (∃ p ys, xs = [.ref p] ∧ (SqL K H p ys ∨ SqT K H p ys) ∧ Q (.int (ys.length : Nat)) H) ∨ ∃ z, xs = [.str z] ∧ z.length ≤ sizeLine ∧ Q (.int (z.length : Nat)) H
section
variable {X : Cx}
theorem callU_len : CallR X (.builtin "len") (rLenU X.K) := call_len_seq.or call_len_str
theorem callT_len {C : Wd} : CallT C (rLenU C.K) lenD := by
  intro Hs H xs ds val Q ex h g k
  unfold lenD at g
  split at g
  · cases g
    obtain ⟨v, rfl, q⟩ := h.one
    obtain ⟨a, ys, rfl, h1, h2⟩ := q.lst ex
    exact .inl ⟨a, ys, rfl, .inl (SqL.of h1), by rw [h2.length]; exact atom_end ex k rpI⟩
  · cases g
    obtain ⟨v, rfl, q⟩ := h.one
    obtain ⟨a, ys, rfl, h1, h2⟩ := q.tup ex
    exact .inl ⟨a, ys, rfl, .inr (SqT.of h1), by rw [h2.length]; exact atom_end ex k rpI⟩
  · cases g
    obtain ⟨v, rfl, q⟩ := h.one
    obtain ⟨a, rfl, h1⟩ := q.scr ex
    exact .inl ⟨a, _, rfl, .inl h1, by rw [List.length_map]; exact atom_end ex k rpI⟩
  · split at g
    · rename_i hl
      cases g
      obtain ⟨v, rfl, q⟩ := h.one
      obtain rfl := q.str
      exact .inr ⟨_, rfl, size_ok hl, atom_end ex k rpI⟩
    · cases g
  · cases g
def intD : List D → Option Val
  | [.int i] => some (.fz (.int i))
  | [.bl b] => some (.fz (.int (if b then 1 else 0)))
  | _ => none
theorem callT_int {C : Wd} : CallT C (fun xs H Q => (∃ i, xs = [V.int i] ∧ Q (.int i) H) ∨ ∃ k, xs = [V.bl k] ∧ Q (.int (if k then 1 else 0)) H) intD := by
  intro Hs H xs ds val Q ex h g k
  unfold intD at g
  split at g
  · cases g
    obtain ⟨v, rfl, q⟩ := h.one
    obtain rfl := q.int
    exact .inl ⟨_, rfl, atom_end ex k rpI⟩
  · cases g
    obtain ⟨v, rfl, q⟩ := h.one
    obtain rfl := q.bl
    exact .inr ⟨_, rfl, atom_end ex k rpI⟩
  · cases g
def absD : List D → Option Val
  | [.int i] => some (.fz (.int (if i < 0 then -i else i)))
  | _ => none
theorem callT_abs {C : Wd} : CallT C (fun xs H Q => ∃ i, xs = [V.int i] ∧ Q (.int (if i < 0 then -i else i)) H) absD := by
  intro Hs H xs ds val Q ex h g k
  unfold absD at g
  split at g
  · cases g
    obtain ⟨v, rfl, q⟩ := h.one
    obtain rfl := q.int
    exact ⟨_, rfl, atom_end ex k rpI⟩
  · cases g
def max2D : List D → Option Val
  | [.int i, .int j] => some (.fz (.int (if j > i then j else i)))
  | _ => none
def min2D : List D → Option Val
  | [.int i, .int j] => some (.fz (.int (if j < i then j else i)))
  | _ => none
theorem callT_max2 {C : Wd} : CallT C (fun xs H Q => ∃ i j, xs = [V.int i, V.int j] ∧ Q (.int (if j > i then j else i)) H) max2D := by
  intro Hs H xs ds val Q ex h g k
  unfold max2D at g
  split at g
  · cases g
    obtain ⟨v, w, rfl, q1, q2⟩ := h.two
    obtain rfl := q1.int
    obtain rfl := q2.int
    exact ⟨_, _, rfl, atom_end ex k rpI⟩
  · cases g
theorem callT_min2 {C : Wd} : CallT C (fun xs H Q => ∃ i j, xs = [V.int i, V.int j] ∧ Q (.int (if j < i then j else i)) H) min2D := by
  intro Hs H xs ds val Q ex h g k
  unfold min2D at g
  split at g
  · cases g
    obtain ⟨v, w, rfl, q1, q2⟩ := h.two
    obtain rfl := q1.int
    obtain rfl := q2.int
    exact ⟨_, _, rfl, atom_end ex k rpI⟩
  · cases g
def listD : List D → Option Val
  | [.lst ds] => some (.fr (.lst ds))
  | [.tup ds] => some (.fr (.lst ds))
  | _ => none
theorem callT_list {C : Wd} : CallT C (fun xs H Q => ∃ p ys, xs = [V.ref p] ∧ (SqL C.K H p ys ∨ SqT C.K H p ys) ∧ ∀ l, H l = none → Q (.ref l) (upd H l (.lst ys))) listD := by
  intro Hs H xs ds val Q ex h g k
  unfold listD at g
  split at g
  · cases g
    obtain ⟨v, rfl, q⟩ := h.one
    obtain ⟨a, ys, rfl, h1, h2⟩ := q.lst ex
    exact ⟨a, ys, rfl, .inl (SqL.of h1), fun l hl => k _ _ Hs (Grow.new ex hl) ⟨l, rfl, hl, xBack ex hl, ys, upd_same, h2⟩⟩
  · cases g
    obtain ⟨v, rfl, q⟩ := h.one
    obtain ⟨a, ys, rfl, h1, h2⟩ := q.tup ex
    exact ⟨a, ys, rfl, .inr (SqT.of h1), fun l hl => k _ _ Hs (Grow.new ex hl) ⟨l, rfl, hl, xBack ex hl, ys, upd_same, h2⟩⟩
  · cases g
def tupleD : List D → Option Val
  | [.lst ds] => some (.fz (.tup ds))
  | [.tup ds] => some (.fz (.tup ds))
  | _ => none
theorem callT_tuple {C : Wd} : CallT C (fun xs H Q => ∃ p ys, xs = [V.ref p] ∧ ((SqL C.K H p ys ∧ ∀ l, H l = none → Q (.ref l) (upd H l (.tup ys))) ∨ (SqT C.K H p ys ∧ Q (.ref p) H))) tupleD := by
  intro Hs H xs ds val Q ex h g k
  unfold tupleD at g
  split at g
  · cases g
    obtain ⟨v, rfl, q⟩ := h.one
    obtain ⟨a, ys, rfl, h1, h2⟩ := q.lst ex
    refine ⟨a, ys, rfl, .inl ⟨SqL.of h1, fun l hl => ?_⟩⟩
    have gr := Grow.newF (o := HO.tup ys) ex hl
    refine k _ _ _ gr ?_
    show Rp _ _ (.tup _) _
    simp only [Rp]
    exact ⟨l, ys, rfl, upd_same, RpL.mono gr.ex _ _ h2⟩
  · cases g
    obtain ⟨v, rfl, q⟩ := h.one
    rcases q with q | ⟨a, _, q⟩
    · have q' := q
      simp only [Rp] at q'
      obtain ⟨a, ys, rfl, h1, h2⟩ := q'
      exact ⟨a, ys, rfl, .inr ⟨SqT.of (ex _ _ h1), atom_end ex k q⟩⟩
    · exact q.elim
  · cases g
def boolsD : List D → Option (List Bool)
  | [] => some []
  | .bl b :: r => (boolsD r).map (b :: ·)
  | _ => none
theorem RpL.bools {C : Wd} {H : Hp} : ∀ {ds : List D} {xs : List V} {bs : List Bool}, RpL C H ds xs → boolsD ds = some bs → xs = bs.map V.bl
  | [], xs, bs, h, e => by
    cases e
    simp only [RpL] at h
    subst h
    rfl
  | .bl b :: r, xs, bs, h, e => by
    unfold boolsD at e
    cases e2 : boolsD r with
    | none => rw [e2] at e; cases e
    | some cs =>
      rw [e2] at e; cases e
      simp only [RpL, Rp] at h
      obtain ⟨v, t, rfl, rfl, h2⟩ := h
      rw [RpL.bools h2 e2]; rfl
  | .non :: r, xs, bs, h, e => by cases e
  | .int _ :: r, xs, bs, h, e => by cases e
  | .str _ :: r, xs, bs, h, e => by cases e
  | .tup _ :: r, xs, bs, h, e => by cases e
  | .lst _ :: r, xs, bs, h, e => by cases e
  | .scr _ :: r, xs, bs, h, e => by cases e
  | .dct _ _ :: r, xs, bs, h, e => by cases e
  | .ins _ _ :: r, xs, bs, h, e => by cases e
def anyD : List D → Option Val
  | [.lst ds] => (boolsD ds).map fun bs => .fz (.bl (bs.any id))
  | _ => none
def allD : List D → Option Val
  | [.lst ds] => (boolsD ds).map fun bs => .fz (.bl (bs.all id))
  | _ => none
theorem callT_any {C : Wd} : CallT C (rAny C.K) anyD := by
  intro Hs H xs ds val Q ex h g k
  unfold anyD at g
  split at g
  · rename_i es
    cases e2 : boolsD es with
    | none => rw [e2] at g; cases g
    | some bs =>
      rw [e2] at g; cases g
      obtain ⟨v, rfl, q⟩ := h.one
      obtain ⟨a, ys, rfl, h1, h2⟩ := q.lst ex
      exact ⟨a, bs, rfl, by rw [← h2.bools e2]; exact SqL.of h1, atom_end ex k rpB⟩
  · cases g
theorem callT_all {C : Wd} : CallT C (rAll C.K) allD := by
  intro Hs H xs ds val Q ex h g k
  unfold allD at g
  split at g
  · rename_i es
    cases e2 : boolsD es with
    | none => rw [e2] at g; cases g
    | some bs =>
      rw [e2] at g; cases g
      obtain ⟨v, rfl, q⟩ := h.one
      obtain ⟨a, ys, rfl, h1, h2⟩ := q.lst ex
      exact ⟨a, bs, rfl, by rw [← h2.bools e2]; exact SqL.of h1, atom_end ex k rpB⟩
  · cases g
def cutD (ds : List D) (lo hi : Option Int) : List D := (ds.drop (HT.sIx ds.length 0 lo)).take (HT.sIx ds.length ds.length hi - HT.sIx ds.length 0 lo)
theorem RpL.cut {C : Wd} {H : Hp} {ds : List D} {xs : List V} (h : RpL C H ds xs) (lo hi : Option Int) : RpL C H (cutD ds lo hi) (cutV xs lo hi) := by
  unfold cutD cutV
  rw [h.length]
  exact (h.drop _).take _
def slD : D → Option Int → Option Int → Option Val
  | .lst ds, lo, hi => some (.fr (.lst (cutD ds lo hi)))
  | .tup ds, lo, hi => if HT.sIx ds.length 0 lo = 0 ∧ HT.sIx ds.length ds.length hi = ds.length then none else some (.fz (.tup (cutD ds lo hi)))
  | .str s, lo, hi => if s.length ≤ 100000 then some (.fz (.str (cutS s lo hi))) else none
  | _, _, _ => none
def rSlU (K : PySem.W.Frag) : V → Option Int → Option Int → Hp → VK → Prop := fun x lo hi H Q => rSlL K x lo hi H Q ∨ (rSlT K x lo hi H Q ∨ rSlS x lo hi H Q)
theorem slU : SlR X (rSlU X.K) := sl_list.or (sl_tup.or sl_str)
theorem slT_any {C : Wd} : SlT C (rSlU C.K) slD := by
  intro Hs H x d lo hi val Q ex hx g k
  unfold slD at g
  split at g
  · cases g
    obtain ⟨a, ys, rfl, h1, h2⟩ := hx.lst ex
    exact .inl ⟨a, ys, rfl, SqL.of h1, fun l hl => k _ _ Hs (Grow.new ex hl) ⟨l, rfl, hl, xBack ex hl, _, upd_same, h2.cut _ _⟩⟩
  · split at g
    · cases g
    · rename_i hw
      cases g
      obtain ⟨a, ys, rfl, h1, h2⟩ := hx.tup ex
      refine .inr (.inl ⟨a, ys, rfl, SqT.of h1, by rw [h2.length]; exact hw, fun l hl => ?_⟩)
      have gr := Grow.newF (o := HO.tup (cutV ys lo hi)) ex hl
      refine k _ _ _ gr ?_
      show Rp _ _ (.tup _) _
      simp only [Rp]
      exact ⟨l, _, rfl, upd_same, RpL.mono gr.ex _ _ (h2.cut _ _)⟩
  · split at g
    · rename_i hl
      cases g
      obtain rfl := hx.str
      exact .inr (.inr ⟨_, rfl, size_ok hl, atom_end ex k rpS⟩)
    · cases g
  · cases g
def x1 (g : D → Option Val) (p : M Val) : M Val := p.bind fun a env => (deref env a).bind fun d => (g d).map fun v => .ok v env
def negD : D → Option Val
  | .int i => some (.fz (.int (-i)))
  | _ => none
theorem x_neg {W : WX} {e : Expr} {p : M Val} {pos : Pos} (h : PE X e (tX (wdOf X) W p)) : PE X (.UnaryOp .USub e pos) (tX (wdOf X) W (x1 negD p)) :=
  pe_weak (pe_un un_neg h) fun σ H Q ⟨env, Hs, r1, rp, e, fin⟩ => by
    refine Tm.bindAt rp e fin fun va env1 v H1 Hs1 hp st rv e1 => ?_
    cases hd : deref env1 va with
    | none => rw [hd] at e1; cases e1
    | some d =>
      rw [hd, Option.bind_some] at e1
      have q := st.rep.deref (rv.vv hd) hd
      unfold negD at e1
      split at e1
      · cases e1
        obtain rfl := q.int
        exact ⟨_, rfl, fin.op st (Grow.refl st.rep.ex) (show Rp (wdOf X) Hs1 (.int _) _ from rpI)⟩
      · cases e1
def inS : D → D → Option Val
  | .str x, .str y => some (.fz (.bl (!(Builtin.Str.occurrences y x 0 y.length 1).isEmpty)))
  | _, _ => none
end
end VE
namespace VE
open PySem PySem.Spec PyProof.Rows L2
theorem bb_len : bootBuiltins "len" = some (.builtin "len") := by decide +kernel
theorem bb_abs : bootBuiltins "abs" = some (.builtin "abs") := by decide +kernel
theorem bb_max : bootBuiltins "max" = some (.builtin "max") := by decide +kernel
theorem bb_min : bootBuiltins "min" = some (.builtin "min") := by decide +kernel
theorem bb_any : bootBuiltins "any" = some (.builtin "any") := by decide +kernel
theorem bb_all : bootBuiltins "all" = some (.builtin "all") := by decide +kernel
theorem bb_sum : bootBuiltins "sum" = some (.builtin "sum") := by decide +kernel
theorem bb_repr : bootBuiltins "repr" = some (.builtin "repr") := by decide +kernel
theorem bb_sorted : bootBuiltins "sorted" = some (.builtin "sorted") := by decide +kernel
theorem bb_isinstance : bootBuiltins "isinstance" = some (.builtin "isinstance") := by decide +kernel
theorem bb_int : bootBuiltins "int" = some (.type "int") := by decide +kernel
theorem bb_list : bootBuiltins "list" = some (.type "list") := by decide +kernel
theorem bb_tuple : bootBuiltins "tuple" = some (.type "tuple") := by decide +kernel
theorem bb_set : bootBuiltins "set" = some (.type "set") := by decide +kernel
theorem bb_dict : bootBuiltins "dict" = some (.type "dict") := by decide +kernel
theorem bb_str : bootBuiltins "str" = some (.type "str") := by decide +kernel
def mulU : D → D → Option Val
  | .int a, .int b => mulD (.int a) (.int b)
  | .str s, .int n => if 1 ≤ n ∧ n ≤ 1000 ∧ s.length ≤ 1000 then some (.fz (.str (Txt.mul s n))) else none
  | _, _ => none
def rMulS : R2 := fun x y H Q => ∃ s n, x = .str s ∧ y = .int n ∧ MulOk s n ∧ Q (.str (Txt.mul s n)) H
def rMulU : R2 := fun x y H Q => rI CMul (fun i j => .int (i * j)) x y H Q ∨ rMulS x y H Q
section
variable {X : Cx}
theorem op_mulS : OpR X (binaryOp .Mult) rMulS := by
  intro pins s σ H x y v u Q I rx ry h
  obtain ⟨z, n, rfl, rfl, ok, q⟩ := h
  obtain ⟨t, rfl⟩ := rx
  obtain ⟨t', rfl⟩ := ry
  exact SB.mul ok fun t'' k => ⟨.str _, H, I.tok _, ⟨_, rfl⟩, q⟩
theorem opU_mul : OpR X (binaryOp .Mult) rMulU := op_mul.or op_mulS
theorem mulOk_small {s : Str} {n : Int} (h : 1 ≤ n ∧ n ≤ 1000 ∧ s.length ≤ 1000) : MulOk s n := by
  obtain ⟨h1, h2, h3⟩ := h
  refine ⟨?_, fun _ _ hh => ?_, fun _ _ => ?_⟩
  · rw [Bool.or_eq_false_iff]
    exact ⟨decide_eq_false (by omega), decide_eq_false (by omega)⟩
  · have h4 : (1000 : Int) ≤ (2 ^ 63 - 1) / n := by
      rw [Int.le_ediv_iff_mul_le (by omega)]
      have : (1000 : Int) * n ≤ 1000 * 1000 := by omega
      have : (1000 : Int) * 1000 ≤ 2 ^ 63 - 1 := by decide
      omega
    omega
  · have h5 : s.length * n.toNat ≤ 1000 * 1000 := Nat.mul_le_mul h3 (by omega)
    unfold Builtin.Str.tooLong
    exact decide_eq_false (by have : sizeLine = 16777216 := sizeLine_eq; omega)
theorem opT_mulU {C : Wd} : OpT C rMulU mulU := by
  intro Hs H x y dx dy val Q ex hx hy g k
  unfold mulU at g
  split at g
  · exact .inl (opT_mul Hs H x y _ _ val Q ex hx hy g k)
  · split at g
    · rename_i h
      cases g
      obtain rfl := hx.str
      obtain rfl := hy.int
      exact .inr ⟨_, _, rfl, rfl, mulOk_small h, atom_end ex k rpS⟩
    · cases g
  · cases g
variable {W : WX} {e a b c : Expr} {p q s : M Val} {pos : Pos} {pa : M (List Val)}
def xChain (g h : D → D → Option Val) (p q s : M Val) : M Val := p.bind fun x => q.bind fun y => fun env => (deref env x).bind fun dx => (deref env y).bind fun dy => match g dx dy with
  | some (.fz (.bl true)) => (s.bind fun z env => (deref env y).bind fun dy => (deref env z).bind fun dz => (h dy dz).map fun v => .ok v env) env
  | some (.fz (.bl false)) => some (.ok (.fz (.bl false)) env)
  | _ => none
theorem chain_read {C : Wd} {r r' : R2} {g h : D → D → Option Val} {σ : L2.St} {H : Hp} {Q : VK} (hg : OpT C r g) (hh : OpT C r' h) (hq : Tm C W (RVx C) (xChain g h p q s) σ H Q) : tChain r r' (tX C W p) (tX C W q) (tX C W s) σ H Q := by
  obtain ⟨env, Hs, r1, rp, e, fin⟩ := hq
  refine Tm.bindAt rp e fin fun va env1 v H1 Hs1 hp st rv e1 => ?_
  refine Tm.bindAt st.rep e1 (laterX st fin) fun vb env2 u H2 Hs2 hq2 st2 rv2 e2 => ?_
  have s02 := st.trans st2
  cases da : deref env2 va with
  | none => rw [da] at e2; cases e2
  | some dx =>
    rw [da, Option.bind_some] at e2
    cases db : deref env2 vb with
    | none => rw [db] at e2; cases e2
    | some dy =>
      rw [db, Option.bind_some] at e2
      have v1 : VV C Hs2 σ va v := by
        cases va with
        | fr d => cases da
        | fz d => exact Rp.mono st2.ex _ _ rv
        | bor i => exact rv
      have v2 : VV C Hs2 σ vb u := rv2.vv db
      split at e2
      · rename_i hgv
        refine hg Hs2 H2 v u dx dy _ _ st2.rep.ex (st2.rep.deref v1 da) (st2.rep.deref v2 db) hgv fun z H3 Hs3 gr rg => ?_
        have ez : z = .bl true := by simpa [RVg, Rp] using rg
        refine ⟨true, ez, ?_⟩
        have s03 := s02.trans (Stp.grow s02.rep gr)
        have v3 : VV C Hs3 σ vb u := v2.mono gr.ex
        refine Tm.bindAt s03.rep e2 (laterX s03 fin) fun vc env3 w H4 Hs4 hq3 st3 rv3 e3 => ?_
        have s04 := s03.trans st3
        cases db' : deref env3 vb with
        | none => rw [db'] at e3; cases e3
        | some dy' =>
          rw [db', Option.bind_some] at e3
          cases dc : deref env3 vc with
          | none => rw [dc] at e3; cases e3
          | some dz =>
            rw [dc, Option.bind_some] at e3
            cases hv : h dy' dz with
            | none => rw [hv] at e3; cases e3
            | some val =>
              rw [hv] at e3
              cases e3
              exact hh Hs4 H4 u w dy' dz val Q s04.rep.ex (s04.rep.deref (v3.mono st3.ex) db') (s04.rep.deref (rv3.vv dc) dc) hv fun v' H' Hs' gr' rg' => fin.op s04 gr' rg'
      · rename_i hgv
        cases e2
        refine hg Hs2 H2 v u dx dy _ _ st2.rep.ex (st2.rep.deref v1 da) (st2.rep.deref v2 db) hgv fun z H3 Hs3 gr rg => ?_
        have ez : z = .bl false := by simpa [RVg, Rp] using rg
        have s03 := s02.trans (Stp.grow s02.rep gr)
        exact ⟨false, ez, fin _ H3 Hs3 s03 (show Rp C Hs3 (.bl false) _ from rpB)⟩
      · cases e2
theorem x_chain {op op' : CmpOp} {r r' : R2} {g h : D → D → Option Val} (ho : OpR X (compareOp op) r) (hg : OpT (wdOf X) r g) (ho' : OpR X (compareOp op') r') (hh : OpT (wdOf X) r' h) (ha : PE X a (tX (wdOf X) W p)) (hb : PE X b (tX (wdOf X) W q)) (hc : PE X c (tX (wdOf X) W s))
    (hm : lastMarks [op, op'] [b, c] = false := by with_unfolding_all rfl) : PE X (.Compare a [op, op'] [b, c] pos) (tX (wdOf X) W (xChain g h p q s)) := pe_weak (pe_chain ho ho' ha hb hc hm) fun _ _ _ z => chain_read hg hh z
theorem b_chain {op op' : CmpOp} {r r' : R2} {g h : D → D → Option Val} (ho : OpR X (compareOp op) r) (hg : OpT (wdOf X) r g) (ho' : OpR X (compareOp op') r') (hh : OpT (wdOf X) r' h) (ha : PE X a (tX (wdOf X) W p)) (hb : PE X b (tX (wdOf X) W q)) (hc : PE X c (tX (wdOf X) W s))
    (hm : lastMarks [op, op'] [b, c] = false := by with_unfolding_all rfl) : PT X (.Compare a [op, op'] [b, c] pos) (tT (wdOf X) W (bt (xChain g h p q s))) := pt_weak (pt_chain ho ho' ha hb hc hm) fun _ _ _ z => chain_read hg hh (tX_bt z)
def flatOf : D → Option V
  | .non => some .non
  | .bl b => some (.bl b)
  | .int i => some (.int i)
  | .str s => some (.str s)
  | _ => none
def flatsOf : List D → Option (List V)
  | [] => some []
  | d :: ds => (flatOf d).bind fun v => (flatsOf ds).map (v :: ·)
def memB (d : D) : D → Option Bool
  | .str y => match d with
    | .str x => (match x.cps.toList with
      | [c] => some (decide (c ∈ y.cps.toList))
      | _ => none)
    | _ => none
  | .lst es => (toPy d).bind fun p => (toPys es).bind fun ps => if SeqAt.shaped p = true ∧ SeqAt.shaped (.list ps) = true then some (ps.any fun z => PyData.eqv z p) else none
  | .tup es => (flatOf d).bind fun v => (flatsOf es).map fun vs => inV v vs
  | _ => none
def inD (d e : D) : Option Val := (memB d e).map fun b => .fz (.bl b)
def notInD (d e : D) : Option Val := (memB d e).map fun b => .fz (.bl (!b))
def rInU (K : PySem.W.Frag) : R2 := fun x y H Q => rInS x y H Q ∨ (rInD K x y H Q ∨ rIn K false x y H Q)
def rNotInU (K : PySem.W.Frag) : R2 := fun x y H Q => rNotInS x y H Q ∨ (rNotInD K x y H Q ∨ rIn K true x y H Q)
theorem opU_in (hu : X.A.units + 65 < cLine) : OpR X (compareOp .In) (rInU X.K) := op_inS.or ((op_inD hu).or op_in_seq)
theorem opU_notIn (hu : X.A.units + 65 < cLine) : OpR X (compareOp .NotIn) (rNotInU X.K) := op_notInS.or ((op_notInD hu).or op_notIn_seq)
theorem flat_of {C : Wd} {Hs H : Hp} {d : D} {v w : V} (h : RdV C Hs H d v) (e : flatOf d = some w) : v = w ∧ flatV v = true := by
  cases d <;> simp only [flatOf] at e
  case non => cases e; obtain rfl := h.non; exact ⟨rfl, rfl⟩
  case bl => cases e; obtain rfl := h.bl; exact ⟨rfl, rfl⟩
  case int => cases e; obtain rfl := h.int; exact ⟨rfl, rfl⟩
  case str => cases e; obtain rfl := h.str; exact ⟨rfl, rfl⟩
  all_goals cases e
theorem flats_of {C : Wd} {H : Hp} : ∀ {ds : List D} {xs ws : List V}, RpL C H ds xs → flatsOf ds = some ws → xs = ws ∧ xs.all flatV = true
  | [], xs, ws, h, e => by
    cases e
    simp only [RpL] at h
    subst h
    exact ⟨rfl, rfl⟩
  | d :: ds, xs, ws, h, e => by
    simp only [RpL] at h
    obtain ⟨v, r, rfl, h1, h2⟩ := h
    unfold flatsOf at e
    cases e1 : flatOf d with
    | none => rw [e1] at e; cases e
    | some w =>
      cases e2 : flatsOf ds with
      | none => rw [e1, e2] at e; cases e
      | some us =>
        rw [e1, e2] at e
        cases e
        obtain ⟨q1, q2⟩ := flat_of (H := H) (.inl h1) e1
        obtain ⟨q3, q4⟩ := flats_of h2 e2
        exact ⟨by rw [q1, q3], by rw [List.all_cons, q2, q4]; rfl⟩
theorem one_sign {x : Str} {c : Nat} (h : x.cps.toList = [c]) : x = ⟨#[c]⟩ := by
  cases x with
  | mk cps =>
    congr
    exact Array.toList_inj.mp h
theorem mem_cases {C : Wd} {Hs H : Hp} {x y : V} {dx dy : D} {b : Bool} (ex : Ex Hs H) (hx : RdV C Hs H dx x) (hy : RdV C Hs H dy y) (g : memB dx dy = some b) :
    (∃ (c : Nat) (z : Str), x = .str ⟨#[c]⟩ ∧ y = .str z ∧ b = decide (c ∈ z.cps.toList)) ∨ (∃ d ds, Dp C.K H x d ∧ Dp C.K H y (.list ds) ∧ SeqAt.shaped d = true ∧ SeqAt.shaped (.list ds) = true ∧ b = ds.any fun z => PyData.eqv z d) ∨
      (∃ p xs, y = .ref p ∧ (SqL C.K H p xs ∨ SqT C.K H p xs) ∧ flatV x = true ∧ xs.all flatV = true ∧ b = inV x xs) := by
  unfold memB at g
  split at g
  · split at g
    · rename_i z _ w
      split at g
      · rename_i c hc
        cases g
        obtain rfl := hx.str
        obtain rfl := hy.str
        exact .inl ⟨c, _, by rw [one_sign hc], rfl, rfl⟩
      · cases g
    · cases g
  · rename_i es
    cases hp : toPy dx with
    | none => rw [hp] at g; cases g
    | some d =>
      cases hps : toPys es with
      | none => rw [hp, hps] at g; cases g
      | some ps =>
        rw [hp, hps, Option.bind_some, Option.bind_some] at g
        split at g
        · rename_i sh
          cases g
          exact .inr (.inl ⟨d, ps, hx.dp ex hp, hy.dp ex (by simp only [toPy, hps, Option.map_some]), sh.1, sh.2, rfl⟩)
        · cases g
  · rename_i es
    cases hp : flatOf dx with
    | none => rw [hp] at g; cases g
    | some v =>
      cases hps : flatsOf es with
      | none => rw [hp, hps] at g; cases g
      | some vs =>
        rw [hp, hps, Option.bind_some] at g
        cases g
        obtain ⟨a, xs, rfl, h1, h2⟩ := hy.tup ex
        obtain ⟨q1, q2⟩ := flat_of hx hp
        obtain ⟨q3, q4⟩ := flats_of h2 hps
        exact .inr (.inr ⟨a, xs, rfl, .inr (SqT.of h1), q2, q4, by rw [q1, q3]⟩)
  · cases g
theorem opT_in {C : Wd} : OpT C (rInU C.K) inD := by
  intro Hs H x y dx dy val Q ex hx hy g k
  unfold inD at g
  cases hb : memB dx dy with
  | none => rw [hb] at g; cases g
  | some b =>
    rw [hb] at g
    cases g
    have fin := atom_end ex k (rpB (i := b))
    rcases mem_cases ex hx hy hb with ⟨c, z, h1, h2, rfl⟩ | ⟨d, ds, h1, h2, h3, h4, rfl⟩ | ⟨p, xs, h1, h2, h3, h4, rfl⟩
    · exact .inl ⟨c, z, h1, h2, fin⟩
    · exact .inr (.inl ⟨d, ds, h1, h2, h3, h4, fin⟩)
    · exact .inr (.inr ⟨p, xs, h1, h2, h3, h4, fin⟩)
theorem opT_notIn {C : Wd} : OpT C (rNotInU C.K) notInD := by
  intro Hs H x y dx dy val Q ex hx hy g k
  unfold notInD at g
  cases hb : memB dx dy with
  | none => rw [hb] at g; cases g
  | some b =>
    rw [hb] at g
    cases g
    have fin := atom_end ex k (rpB (i := !b))
    rcases mem_cases ex hx hy hb with ⟨c, z, h1, h2, rfl⟩ | ⟨d, ds, h1, h2, h3, h4, rfl⟩ | ⟨p, xs, h1, h2, h3, h4, rfl⟩
    · exact .inl ⟨c, z, h1, h2, fin⟩
    · exact .inr (.inl ⟨d, ds, h1, h2, h3, h4, fin⟩)
    · exact .inr (.inr ⟨p, xs, h1, h2, h3, h4, fin⟩)
theorem x_gs {x : Str} {z : Str} (hg : Gl X x) (hm : ∃ t, X.mg x = some (.str z t)) (hd : (x == ("__debug__" : Str)) = false := by decide) : PE X (.Name x pos) (tX (wdOf X) W (xc (.str z))) := by
  obtain ⟨t, hm⟩ := hm
  exact x_c (pe_glob (v := .str z) hg hm ⟨_, rfl⟩ hd) fun _ => rpS
def strsD : List D → Option (List Str)
  | [] => some []
  | .str s :: r => (strsD r).map (s :: ·)
  | _ => none
theorem RpL.strs {C : Wd} {H : Hp} : ∀ {ds : List D} {xs : List V} {ss : List Str}, RpL C H ds xs → strsD ds = some ss → xs = ss.map V.str
  | [], xs, ss, h, e => by
    cases e
    simp only [RpL] at h
    subst h
    rfl
  | .str b :: r, xs, ss, h, e => by
    unfold strsD at e
    cases e2 : strsD r with
    | none => rw [e2] at e; cases e
    | some cs =>
      rw [e2] at e; cases e
      simp only [RpL, Rp] at h
      obtain ⟨v, t, rfl, rfl, h2⟩ := h
      rw [RpL.strs h2 e2]; rfl
  | .non :: r, xs, bs, h, e => by cases e
  | .bl _ :: r, xs, bs, h, e => by cases e
  | .int _ :: r, xs, bs, h, e => by cases e
  | .tup _ :: r, xs, bs, h, e => by cases e
  | .lst _ :: r, xs, bs, h, e => by cases e
  | .scr _ :: r, xs, bs, h, e => by cases e
  | .dct _ _ :: r, xs, bs, h, e => by cases e
  | .ins _ _ :: r, xs, bs, h, e => by cases e
def joinD (d e : D) : Option Val := match d, e with
  | .str a, .lst es => (strsD es).bind fun ys => if (ys.map (·.length)).sum + ys.length * a.length ≤ 100000 then some (.fz (.str (Txt.join a ys))) else none
  | _, _ => none
def xJoin (p q : M Val) : M Val := x2 joinD (p.bind fun v => match v with
  | .fz (.str s) => M.pure (.fz (.str s))
  | _ => fun _ => none) q
def rJoin (K : PySem.W.Frag) : V → List V → Hp → VK → Prop := fun x xs H Q => ∃ a p, ∃ ys : List Str, x = .str a ∧ xs = [.ref p] ∧ (SqL K H p (ys.map V.str) ∨ SqT K H p (ys.map V.str)) ∧ (ys.map (·.length)).sum + ys.length * a.length ≤ 16777216 ∧ Q (.str (Txt.join a ys)) H
theorem x_join {st : Expr} (h : PE X st (tM1 (rJoin X.K) (tX (wdOf X) W p) (tX (wdOf X) W q))) : PE X st (tX (wdOf X) W (xJoin p q)) := pe_weak h fun σ H Q ⟨env, Hs, r1, rp, e, fin⟩ => by
  have e' := e
  unfold xJoin x2 at e'
  unfold M.bind at e'
  cases hp : p env with
  | none => rw [hp] at e'; cases e'
  | some o =>
    rw [hp] at e'
    cases o with
    | exc x d env1 => cases e'; exact ⟨env, Hs, _, rp, hp, fin⟩
    | ok va env1 =>
      refine ⟨env, Hs, _, rp, hp, fun v H1 Hs1 st rv => ?_⟩
      cases va with
      | fr _ => cases e'
      | bor _ => cases e'
      | fz d =>
        cases d with
        | str z =>
          have ev : v = .str z := by simpa [RV, Rp] using rv
          subst ev
          refine ⟨⟨z, rfl⟩, ?_⟩
          have e2 : (q.bind fun b => fun env => (deref env (.fz (.str z))).bind fun da => (deref env b).bind fun db => (joinD da db).map fun v => .ok v env) env1 = some r1 := e'
          refine Tm.bindAt st.rep e2 (laterX st fin) fun vb env2 u H2 Hs2 hq st2 ru e3 => ?_
          have s02 := st.trans st2
          cases db : deref env2 vb with
          | none => rw [show deref env2 (.fz (.str z)) = some (.str z) from rfl, Option.bind_some, db] at e3; cases e3
          | some y =>
            rw [show deref env2 (.fz (.str z)) = some (.str z) from rfl, Option.bind_some, db, Option.bind_some] at e3
            cases gv : joinD (.str z) y with
            | none => rw [gv] at e3; cases e3
            | some val =>
              rw [gv] at e3
              cases e3
              unfold joinD at gv
              split at gv
              · rename_i a es h1
                cases h1
                cases hs : strsD es with
                | none => rw [hs] at gv; cases gv
                | some ys =>
                  rw [hs, Option.bind_some] at gv
                  split at gv
                  · rename_i hl
                    cases gv
                    obtain ⟨l, xs, rfl, q1, q2⟩ := (s02.rep.deref (ru.vv db) db).lst s02.rep.ex
                    refine ⟨z, l, ys, rfl, rfl, .inl (by rw [← q2.strs hs]; exact SqL.of q1), by omega, ?_⟩
                    exact fin.op s02 (Grow.refl s02.rep.ex) (show Rp (wdOf X) Hs2 (.str _) _ from rpS)
                  · cases gv
              · cases gv
        | _ => cases e'
variable {tg : List Expr} {k : Nat} {tpos p0 : Pos}
def itE (pa : M (List Val)) : M (List D) := pa.bind fun vs env => match vs with
  | [.fz (.lst ds)] => some (.ok (enumL 0 ds) env)
  | _ => none
def itZ (pa : M (List Val)) : M (List D) := pa.bind fun vs env => match vs with
  | [.fz (.lst ds), .fz (.lst es)] => some (.ok (zipL ds es) env)
  | _ => none
theorem i_enum (hg : Gl X "enumerate") (hm : X.mg "enumerate" = none) (ha : PA X [a] (tA (wdOf X) W pa)) (hs : starEach [a] X.env = [(false, eval a X.env)] := by rfl) : PI X (.Tuple tg k tpos) (.Call (.Name "enumerate" p0) [a] [] pos) (tI (wdOf X) W (itE pa)) :=
  pi_weak (pi_enum hg hm ha hs) fun σ H R ⟨env, Hs, r, rp, e, fin⟩ => by
    refine Tm.iter rp e fin fun l env1 vs H1 Hs1 hp st rv e1 => ?_
    split at e1
    · rename_i ds
      cases e1
      obtain ⟨v, t, rfl, q1, q2⟩ := rv
      cases (show t = [] from q2)
      have q1 : Rp (wdOf X) Hs1 (.lst ds) v := q1
      simp only [Rp] at q1
      obtain ⟨x, xs, rfl, h1, h2⟩ := q1
      exact ⟨x, xs, rfl, SqL.of (st.rep.ex _ _ h1), fin _ _ H1 Hs1 st itv_enum ⟨h1, h2⟩⟩
    · cases e1
theorem i_zip (hg : Gl X "zip") (hm : X.mg "zip" = none) (ha : PA X [a, b] (tA (wdOf X) W pa)) (hs : starEach [a, b] X.env = (false, eval a X.env) :: starEach [b] X.env := by rfl) (hpl : (backTo pos (starEach [b] X.env)).any (·.1) = false := by rfl) :
    PI X (.Tuple tg k tpos) (.Call (.Name "zip" p0) [a, b] [] pos) (tI (wdOf X) W (itZ pa)) :=
  pi_weak (pi_zip hg hm ha hs hpl) fun σ H R ⟨env, Hs, r, rp, e, fin⟩ => by
    refine Tm.iter rp e fin fun l env1 vs H1 Hs1 hp st rv e1 => ?_
    split at e1
    · rename_i ds es
      cases e1
      obtain ⟨v, t, rfl, q1, w, t2, rfl, q2, q3⟩ := rv
      cases (show t2 = [] from q3)
      have q1 : Rp (wdOf X) Hs1 (.lst ds) v := q1
      have q2 : Rp (wdOf X) Hs1 (.lst es) w := q2
      simp only [Rp] at q1 q2
      obtain ⟨x, xs, rfl, h1, h2⟩ := q1
      obtain ⟨y, ys, rfl, h3, h4⟩ := q2
      exact ⟨x, y, xs, ys, rfl, SqL.of (st.rep.ex _ _ h1), SqL.of (st.rep.ex _ _ h3), fin _ _ H1 Hs1 st itv_zip ⟨⟨h1, h2⟩, h3, h4⟩⟩
    · cases e1
end
end VE
namespace VE
open PySem PySem.Spec PyProof.Rows L2
def Gives {α : Type} (P : Program) (w : World) (s : Shared) (m : Sem α) (x : α) : Prop := ∀ (A : Around) (E : Value → Shared → Prop) (Q : α → Shared → Prop), Q x s → wpAny (model P w) A m Q E s
section
variable {P : Program} {w : World} {s : Shared} {α : Type}
theorem gives_of {m : Sem α} {x : α} (h : m = pure x) : Gives P w s m x := fun _ _ _ q => h ▸ wpAny_pure q
theorem never_tup {n c : Nat} {a : Addr} {o : Obj} {vs : Array Value} (ho : s.heap.get? a = some o) (hc : o.cls = .type "tuple") (hd : o.data = .seq vs c) (hq : ∀ v ∈ vs.toList, Gives P w s (ofAClassStatement n v) false) : Gives P w s (ofAClassStatement (n + 1) (.ref a)) false := fun A E Q q => by
  have hT : s.TypeIs (.ref a) "tuple" := ⟨o, ho, hc⟩
  unfold ofAClassStatement; refine wpAny_bind (wpAny_typeOf hT ?_); dsimp only
  rw [show (("tuple" : String) == "tuple") = true from by decide]
  simp only [if_true, Bool.not_true, Bool.false_eq_true, if_false]
  try (refine wpAny_bind (wpAny_pure ?_); simp only [Bool.not_true, Bool.false_eq_true, if_false])
  show wpAny _ _ (seqItems? (.ref a) >>= _) _ _ s
  refine wpAny_bind (wpAny_seqItems ho hd ?_); dsimp only
  refine wpAny_bind (show wpAny _ _ (forIn vs _ _) _ _ s from ?_); rw [← Array.forIn_toList]
  refine wpAny_forIn_list _ (fun l r s' => r.1 = none ∧ s' = s ∧ ∀ v ∈ l, Gives P w s (ofAClassStatement n v) false) _ (fun v l r s' ⟨h1, h2, h3⟩ => ?_) (fun r s' ⟨h1, h2, _⟩ => ?_) _ _ ⟨rfl, rfl, hq⟩
  · subst h2
    refine wpAny_bind (h3 v List.mem_cons_self A E _ ?_); simp only [Bool.false_eq_true, if_false]
    exact wpAny_pure ⟨rfl, rfl, fun u hu => h3 u (List.mem_cons_of_mem _ hu)⟩
  · obtain ⟨r1, r2⟩ := r
    cases (show r1 = none from h1); subst h2; exact wpAny_pure q
mutual
theorem never_key : ∀ (k : NK) (v : Value) (n : Nat), NestedIs s.heap k v → k.depth ≤ n → Gives P w s (ofAClassStatement n v) false
  | .none, _, n, x, _ => by cases x; exact gives_of (by cases n <;> rfl)
  | .num _, _, n, x, _ => by cases x <;> exact gives_of (by cases n <;> rfl)
  | .text _, _, n, x, _ => by cases x; exact gives_of (by cases n <;> rfl)
  | .tup ks, _, 0, _, h => by simp only [NestedKey.depth] at h; omega
  | .tup ks, _, n + 1, x, h => by
    cases x with
    | tup h1 h2 h3 h4 => exact never_tup h1 h2 h3 (never_keys ks _ n h4 (by simp only [NestedKey.depth] at h; omega))
theorem never_keys : ∀ (ks : List NK) (vs : List Value) (n : Nat), NestedAll s.heap ks vs → NestedKey.depthAll ks ≤ n → ∀ v ∈ vs, Gives P w s (ofAClassStatement n v) false
  | [], _, _, x, _, v, hv => by cases x; cases hv
  | k :: ks, _, n, x, h, v, hv => by
    cases x with
    | cons x1 x2 =>
      simp only [NestedKey.depthAll] at h
      rcases List.mem_cons.mp hv with e | hv
      · subst e; exact never_key k _ n x1 (by omega)
      · exact never_keys ks _ n x2 (by omega) v hv
end
def Hb (P : Program) (w : World) (s : Shared) (n : Nat) (v : Value) : Prop := ∃ b, Gives P w s (hashByValue n v) b
theorem hb_tup {n c : Nat} {a : Addr} {o : Obj} {vs : Array Value} (ho : s.heap.get? a = some o) (hc : o.cls = .type "tuple") (hd : o.data = .seq vs c) (hq : ∀ v ∈ vs.toList, Hb P w s n v) : Hb P w s (n + 1) (.ref a) := by
  have hT : s.TypeIs (.ref a) "tuple" := ⟨o, ho, hc⟩
  -- the items, one by one
  have go : ∀ l : List Value, (∀ v ∈ l, Hb P w s n v) → ∃ b : Bool, ∀ (A : Around) (E : Value → Shared → Prop) (Q : (Option Bool × PUnit) → Shared → Prop),
      (∀ r : (Option Bool × PUnit), (r.1 = if b then none else some false) → Q r s) → wpAny (model P w) A (forIn l ((none, PUnit.unit) : Option Bool × PUnit) fun x r => do
        let __do_lift ← hashByValue n x
        if (!__do_lift) = true then pure (ForInStep.done (some false, PUnit.unit)) else pure (ForInStep.yield (none, PUnit.unit))) Q E s := by
    intro l
    induction l with
    | nil => exact fun _ => ⟨true, fun A E Q q => by rw [List.forIn_nil]; exact wpAny_pure (q _ rfl)⟩
    | cons v l ih =>
      intro h
      obtain ⟨b, hb⟩ := h v List.mem_cons_self
      cases b with
      | false =>
        refine ⟨false, fun A E Q q => ?_⟩
        rw [List.forIn_cons]; refine wpAny_bind (wpAny_bind (hb A E _ ?_)); simp only [Bool.not_false, if_true]
        exact wpAny_pure (wpAny_pure (q _ rfl))
      | true =>
        obtain ⟨b2, h2⟩ := ih fun u hu => h u (List.mem_cons_of_mem _ hu)
        refine ⟨b2, fun A E Q q => ?_⟩
        rw [List.forIn_cons]; refine wpAny_bind (wpAny_bind (hb A E _ ?_)); simp only [Bool.not_true, Bool.false_eq_true, if_false]
        exact wpAny_pure (h2 A E Q q)
  obtain ⟨b, hb⟩ := go vs.toList hq
  refine ⟨b, fun A E Q q => ?_⟩
  unfold hashByValue; refine wpAny_bind (wpAny_specialOf hT F.slot_tuple_hash.lookup ?_)
  show wpAny _ _ (seqItems? (.ref a) >>= _) _ _ s
  refine wpAny_bind (wpAny_seqItems ho hd (wpAny_bind (show wpAny _ _ (forIn vs _ _) _ _ s from ?_))); rw [← Array.forIn_toList]
  refine hb A E _ fun r hr => ?_
  obtain ⟨r1, r2⟩ := r
  cases (show r1 = _ from hr)
  cases b with
  | true => exact wpAny_pure q
  | false => exact wpAny_pure q
mutual
theorem hb_key : ∀ (k : NK) (v : Value) (n : Nat), NestedIs s.heap k v → k.depth ≤ n → Hb P w s n v
  | .none, _, n, x, _ => by cases x; exact ⟨_, gives_of (by cases n <;> rfl)⟩
  | .num _, _, n, x, _ => by cases x <;> exact ⟨_, gives_of (by cases n <;> rfl)⟩
  | .text _, _, n, x, _ => by cases x; exact ⟨_, gives_of (by cases n <;> rfl)⟩
  | .tup ks, _, 0, _, h => by simp only [NestedKey.depth] at h; omega
  | .tup ks, _, n + 1, x, h => by
    cases x with
    | tup h1 h2 h3 h4 => exact hb_tup h1 h2 h3 (hb_keys ks _ n h4 (by simp only [NestedKey.depth] at h; omega))
theorem hb_keys : ∀ (ks : List NK) (vs : List Value) (n : Nat), NestedAll s.heap ks vs → NestedKey.depthAll ks ≤ n → ∀ v ∈ vs, Hb P w s n v
  | [], _, _, x, _, v, hv => by cases x; cases hv
  | k :: ks, _, n, x, h, v, hv => by
    cases x with
    | cons x1 x2 =>
      simp only [NestedKey.depthAll] at h
      rcases List.mem_cons.mp hv with e | hv
      · subst e; exact hb_key k _ n x1 (by omega)
      · exact hb_keys ks _ n x2 (by omega) v hv
end
theorem seen_key {k : NK} {x : Value} (hk : NestedIs s.heap k x) (dk : k.depth ≤ 8) {ys : List Value} (hy : ∀ y ∈ ys, ∃ k', NestedIs s.heap k' y ∧ k'.depth ≤ 8) : Gives P w s (searchCouldBeSeen x ys) false := fun A E Q q => by
  unfold searchCouldBeSeen; refine wpAny_bind ?_
  refine wpAny_forIn_list _ (fun l r s' => r.1 = none ∧ s' = s ∧ ∀ y ∈ l, ∃ k', NestedIs s.heap k' y ∧ k'.depth ≤ 8) _ (fun v l r s' ⟨h1, h2, h3⟩ => ?_) (fun r s' ⟨h1, h2, _⟩ => ?_) _ _ ⟨rfl, rfl, hy⟩
  · subst h2
    obtain ⟨k', hv, dv⟩ := h3 v List.mem_cons_self
    have rest := fun u (hu : u ∈ l) => h3 u (List.mem_cons_of_mem _ hu)
    dsimp only
    have two : ∀ (b : Bool) {m m' : Sem (ForInStep (Option Bool × PUnit))} {Q' : ForInStep (Option Bool × PUnit) → Shared → Prop}, wpAny (model P w) A m Q' E s' → wpAny (model P w) A m' Q' E s' → wpAny (model P w) A (if b = true then m else m') Q' E s' := fun b {m m' Q'} x y => by cases b <;> assumption
    refine two _ (wpAny_pure ⟨rfl, rfl, rest⟩) ?_
    · refine wpAny_bind (quiet_key k x 8 _ hk dk A E _ ?_); simp only [Bool.not_true, Bool.false_eq_true, if_false]
      refine wpAny_bind (quiet_key k' v 8 _ hv dv A E _ ?_); simp only [Bool.not_true, Bool.false_eq_true, if_false]
      refine wpAny_bind (never_key k x 8 hk dk A E _ ?_); simp only [Bool.false_eq_true, if_false]
      refine wpAny_bind (never_key k' v 8 hv dv A E _ ?_); simp only [Bool.false_eq_true, if_false]
      exact wpAny_pure ⟨rfl, rfl, rest⟩
  · obtain ⟨r1, r2⟩ := r
    cases (show r1 = none from h1); subst h2; exact wpAny_pure q
end
end VE
namespace VE
open PySem PySem.Spec PyProof.Rows L2
abbrev rowG (w : World) (p : Value × NK) : Int × Value := (p.2.hash w, p.1)
structure TG (w : World) (L : List (Value × NK)) (es : Array (Int × Value)) (t : SetTable) : Prop where
  rows : es.toList = L.map (rowG w)
  tab : TabOk t (L.map fun p => p.2.hash w)
  lt : L.length ≤ t.mask
  few : L.length < 64
section
variable {w : World} {L : List (Value × NK)} {es : Array (Int × Value)} {t : SetTable}
theorem TG.size (T : TG w L es t) : es.size = L.length := by
  have := congrArg List.length T.rows
  rwa [List.length_map, Array.length_toList] at this
theorem TG.place (T : TG w L es t) : t.place.size = L.length := by rw [T.tab.sz, List.length_map]
theorem TG.fits (T : TG w L es t) : t.fits es.size = true := by
  have a := T.place; have b := T.size; have c := T.lt
  unfold SetTable.fits SetTable.fill
  rw [T.tab.dm]
  simp only [Bool.and_eq_true, beq_iff_eq, decide_eq_true_eq]
  exact ⟨by rw [a, b], by show t.place.size + 0 ≤ t.mask; omega⟩
theorem TG.at_ (T : TG w L es t) (i : Nat) : es[i]? = (L[i]?).map (rowG w) := by rw [← Array.getElem?_toList, T.rows, List.getElem?_map]
theorem TG.hash (T : TG w L es t) {i : Nat} {p : Value × NK} (h : L[i]? = some p) : (es[i]?.map (·.1)).getD 0 = p.2.hash w := by rw [T.at_, h]; rfl
theorem TG.set_plain (T : TG w L es t) (b : Bool) : TG w L es { t with plain := b } := ⟨T.rows, ⟨T.tab.ris, T.tab.dm, T.tab.sz, T.tab.mok, T.tab.bd, T.tab.reach⟩, T.lt, T.few⟩
theorem TG.free (T : TG w L es t) (hr : L.length * 5 < t.mask * 3) (h : Int) : ∃ K, K < 10 * SetTable.turns t.mask ∧ K < 100000 ∧ way t.mask h K ∉ t.place.toList ∧ ∀ k, k < K → way t.mask h k ∈ t.place.toList := by
  obtain ⟨K, a, b, c⟩ := T.tab.first (by rw [List.length_map]; exact T.lt) h
  refine ⟨K, a, ?_, b, c⟩
  have : SetTable.turns t.mask ≤ 1000 := by
    unfold SetTable.turns
    rcases T.tab.mok with e | e | e <;> rw [e] <;> omega
  omega
theorem TG.put (T : TG w L es t) (hr : L.length * 5 < t.mask * 3) (h64 : L.length + 1 < 64) {k : NK} (x : Value) {K : Nat} (hK : way t.mask (k.hash w) K ∉ t.place.toList) (hb : ∀ c, c < K → way t.mask (k.hash w) c ∈ t.place.toList) :
    ∃ L1, L1.Perm ((x, k) :: L) ∧ (t.put (way t.mask (k.hash w) K)).2 = SetTable.below t.place (way t.mask (k.hash w) K) ∧
      TG w L1 (SetTable.insertAt es (t.put (way t.mask (k.hash w) K)).2 (k.hash w, x)) (t.put (way t.mask (k.hash w) K)).1 ∧ (t.put (way t.mask (k.hash w) K)).1.mask = t.mask ∧ (t.put (way t.mask (k.hash w) K)).1.led = t.led ∧ (t.put (way t.mask (k.hash w) K)).1.fill = L.length + 1 := by
  obtain ⟨q1, q2, q3, q4, q5, _, _, _, q9⟩ := T.tab.put hK hb
  rw [List.length_map] at q2 q9
  generalize SetTable.below t.place (way t.mask (k.hash w) K) = p at q1 q2 q3 ⊢
  have pm : (L.take p ++ (x, k) :: L.drop p).Perm ((x, k) :: L) := by
    have z : (L.take p ++ (x, k) :: L.drop p).Perm ((x, k) :: (L.take p ++ L.drop p)) := List.perm_middle
    rwa [List.take_append_drop] at z
  have ln := pm.length_eq
  rw [List.length_cons] at ln
  refine ⟨_, pm, q1, ⟨?_, ?_, ?_, by rw [ln]; exact h64⟩, q4, q5, q9⟩
  · rw [q1, SetTable.toList_insertAt, T.rows]
    simp only [List.map_append, List.map_cons, List.map_take, List.map_drop]
  · simpa only [List.map_append, List.map_cons, List.map_take, List.map_drop] using q3
  · rw [ln, q4]
    have := T.tab.mok
    rcases this with e | e | e <;> rw [e] at hr ⊢ <;> omega
theorem range_all {α : Type} : ∀ L : List α, (List.range L.length).filterMap (fun i => L[i]?) = L
  | [] => rfl
  | x :: L => by
    have z : List.filterMap (fun i => (x :: L)[i]?) (List.range (L.length + 1)) = x :: List.filterMap (fun i => L[i]?) (List.range L.length) := by
      rw [List.range_succ_eq_map, List.filterMap_cons, List.filterMap_map]; rfl
    rw [List.length_cons, z, range_all L]
theorem TG.relaid (T : TG w L es t) {wanted M : Nat} (hw : SetTable.sizeAbove wanted - 1 = M) (hM : MaskOk M) (hn : L.length ≤ M) :
    ∃ t2 order L2, t.relaid (es.map (·.1)) wanted = some (t2, order) ∧ order.toList.Perm (List.range es.size) ∧ L2.Perm L ∧ TG w L2 (order.filterMap (es[·]?)) t2 ∧ t2.mask = M ∧ t2.led = t.led := by
  obtain ⟨t2, order, e, hp, T2, em, el, _, _⟩ := relaid_ok t (hs := es.map (·.1)) (wanted := wanted) hw hM (by rw [Array.size_map, T.size]; exact hn)
  rw [Array.size_map] at hp
  have inn : ∀ i ∈ order.toList, i < L.length := fun i hi => by rw [← T.size]; exact List.mem_range.mp (hp.mem_iff.mp hi)
  have pL : (order.toList.filterMap fun i => L[i]?).Perm L := by
    have z := hp.filterMap fun i => L[i]?
    rw [T.size] at z
    rwa [range_all] at z
  refine ⟨t2, order, order.toList.filterMap fun i => L[i]?, e, hp, pL, ⟨?_, ?_, by rw [pL.length_eq, em]; exact hn, by rw [pL.length_eq]; exact T.few⟩, em, el⟩
  · rw [Array.toList_filterMap, List.map_filterMap]
    exact congrArg (fun f => List.filterMap f order.toList) (funext fun i => T.at_ i)
  · have key : ∀ l : List Nat, (∀ i ∈ l, i < L.length) → (l.filterMap fun i => L[i]?).map (fun p => p.2.hash w) = l.map fun i => (es.map (·.1)).getD i 0 := by
      intro l
      induction l with
      | nil => exact fun _ => rfl
      | cons i l ih =>
        intro h
        have hi := h i List.mem_cons_self
        have e1 : L[i]? = some L[i] := List.getElem?_eq_getElem hi
        have e2 : (es.map (·.1)).getD i 0 = (L[i]).2.hash w := by
          have := T.hash e1
          simpa [Array.getD_eq_getD_getElem?] using this
        rw [List.filterMap_cons_some e1, List.map_cons, List.map_cons, e2, ih fun j hj => h j (List.mem_cons_of_mem _ hj)]
    rw [key _ inn]
    exact T2
def Grown (w : World) (L1 : List (Value × NK)) (es1 : Array (Int × Value)) (t1 : SetTable) : Prop :=
    ∃ t2 order L2, t1.relaid (es1.map (·.1)) (SetTable.grown es1.size) = some (t2, order) ∧ order.toList.Perm (List.range es1.size) ∧ L2.Perm L1 ∧ TG w L2 (order.filterMap (es1[·]?)) t2 ∧ t2.led = t1.led ∧ L2.length * 5 < t2.mask * 3 ∧ SetTable.sizeAbove (SetTable.grown es1.size) ≤ 128
theorem TG.grow {L1 : List (Value × NK)} {es1 : Array (Int × Value)} {t1 : SetTable} (T1 : TG w L1 es1 t1) (mk : MaskOk t.mask) (h0 : L.length * 5 < t.mask * 3) (e1 : L1.length = L.length + 1) (em : t1.mask = t.mask) (hf : t1.fill = L.length + 1) (full : t1.tooFull = true) :
    Grown w L1 es1 t1 := by
  unfold SetTable.tooFull at full
  rw [decide_eq_true_eq, hf, em] at full
  have hl := T1.few
  have go : ∀ M, SetTable.sizeAbove (SetTable.grown es1.size) - 1 = M → MaskOk M → (L.length + 1) * 5 < M * 3 → L1.length ≤ M → SetTable.sizeAbove (SetTable.grown es1.size) ≤ 128 → Grown w L1 es1 t1 := fun M a b c d e => by
    obtain ⟨t2, order, L2, q1, q2, q3, q4, q5, q6⟩ := T1.relaid a b d
    exact ⟨t2, order, L2, q1, q2, q3, q4, q6, by rw [q3.length_eq, e1, q5]; exact c, e⟩
  have sz : es1.size = L.length + 1 := by rw [T1.size, e1]
  rcases mk with e | e | e
  · rw [e] at full h0
    have : L.length = 4 := by omega
    refine go 31 (by rw [sz, this, size_20]) (.inr (.inl rfl)) (by omega) (by omega) (by rw [sz, this, size_20]; decide)
  · rw [e] at full h0
    have : L.length = 18 := by omega
    refine go 127 (by rw [sz, this, size_76]) (.inr (.inr rfl)) (by omega) (by omega) (by rw [sz, this, size_76]; decide)
  · rw [e] at full
    omega
theorem roomy {L1 : List (Value × NK)} {t1 : SetTable} (e1 : L1.length = L.length + 1) (hf : t1.fill = L.length + 1) (full : ¬ t1.tooFull = true) : L1.length * 5 < t1.mask * 3 := by
  unfold SetTable.tooFull at full
  rw [decide_eq_true_eq, hf] at full
  omega
end
end VE
namespace VE
open PySem PySem.Spec PyProof.Rows L2
structure SG (P : Program) (w : World) (h : Heap) (a : Addr) (L : List (Value × NK)) (es : Array (Int × Value)) (ep : Nat) (t : SetTable) : Prop where
  ob : ∃ o, h.get? a = some o ∧ o.ExactSet ∧ o.data = .set es ep t
  tg : TG w L es t
  nd : (L.map (·.2)).Nodup
  is : ∀ p ∈ L, NestedIs h p.2 p.1 ∧ p.2.depth ≤ 8 ∧ ∃ b, p.1 = .ref b
  led : w.params.followText "set-order" = true ∨ t.led = true
  room : L.length * 5 < t.mask * 3
abbrev pr0 (t : SetTable) (h : Int) : SetTable.Probe := runAt t.mask (SetTable.bits h % (t.mask + 1)) (SetTable.bits h)
theorem nth_plain (m : Nat) : ∀ (n : Nat) (p : SetTable.Probe), p.dummy = none → (nth m p n).dummy = none
  | 0, _, h => h
  | n + 1, p, h => nth_plain m n (adv m p) (by unfold adv; split <;> exact h)
theorem not_odd {m : Nat} (h : MaskOk m) : ¬ (m % 2 == 0) = true := by rcases h with e | e | e <;> rw [e] <;> decide
section
variable {P : Program} {w : World} {A : Around} {E : Value → Shared → Prop} {s : Shared} {a : Addr} {L : List (Value × NK)} {es : Array (Int × Value)} {ep : Nat} {t : SetTable}
theorem search_way (R : SG P w s.heap a L es ep t) {x : Addr} {k : NK} (hx : NestedIs s.heap k (.ref x)) (dk : k.depth ≤ 8) (hu : A.units + 8 < cLine) {K : Nat} (hf : K < 10 * SetTable.turns t.mask) (hK : way t.mask (k.hash w) K ∉ t.place.toList)
    (hB : ∀ c, c < K → way t.mask (k.hash w) c ∈ t.place.toList) {Q : SetFound → Shared → Prop} (yes : k ∈ L.map (·.2) → Q (.there none) s) (no : k ∉ L.map (·.2) → Q (.free (way t.mask (k.hash w) K) false) s) :
    ∀ (f c : Nat) (stand : Option SetTable.Probe), stand.getD (t.probeStart (k.hash w)) = nth t.mask (pr0 t (k.hash w)) c → c ≤ K → K - c < f → (∀ (i : Nat) p, L[i]? = some p → p.2 = k → ∃ c', c ≤ c' ∧ c' < K ∧ t.place.toList[i]? = some (way t.mask (k.hash w) c')) →
      wpAny (model P w) A (setSearchFrom a (.ref x) (k.hash w) true f stand) Q E s := by
  intro f
  induction f with
  | zero => exact fun c stand _ _ h => absurd h (Nat.not_lt_zero _)
  | succ f ih =>
    intro c stand e0 hc hfu ahead
    obtain ⟨o, ho, hex, hd⟩ := R.ob
    have T := R.tg
    have sl : ∀ q, nth t.mask (nth t.mask (pr0 t (k.hash w)) c) q = nth t.mask (pr0 t (k.hash w)) (c + q) := fun q => (nth_add t.mask c _ q).symm
    have sj : ∀ q, (nth t.mask (nth t.mask (pr0 t (k.hash w)) c) q).j = way t.mask (k.hash w) (c + q) := fun q => congrArg (·.j) (sl q)
    have spec := go_spec t T.tab.ris T.tab.dm (fun i => (es[i]?.map (·.1)).getD 0) (k.hash w) (10 * SetTable.turns t.mask) (K - c) (nth t.mask (pr0 t (k.hash w)) c) (nth_plain _ c _ rfl) (by omega)
      (fun q hq => by rw [sj]; exact hB _ (by omega)) (by rw [sj, Nat.add_sub_cancel' hc]; exact hK)
    rw [setSearchFrom_succ]; refine wpAny_bind (wpAny_setState_of ho hd T.fits ?_); dsimp only
    refine wp_if_neg (not_odd T.tab.mok) ?_
    try refine wpAny_bind (wpAny_pure ?_)
    rcases spec with ⟨q, i, hq, hi, _, hno, hpr⟩ | ⟨hno, hpr⟩
    · rw [sj, sl] at hpr; rw [sj] at hi
      rw [show t.probe (fun i => (es[i]?.map (·.1)).getD 0) (k.hash w) (stand.getD (t.probeStart (k.hash w))) = _ from (congrArg _ e0).trans hpr]; dsimp only
      have il : i < L.length := by
        have := (List.getElem?_eq_some_iff.mp hi).1
        rw [Array.length_toList, T.place] at this
        exact this
      obtain ⟨p, hp⟩ : ∃ p, L[i]? = some p := ⟨_, List.getElem?_eq_getElem il⟩
      obtain ⟨pis, pd, b, pb⟩ := R.is p (List.mem_of_getElem? hp)
      have ei : es[i]? = some (p.2.hash w, p.1) := by rw [T.at_, hp]; rfl
      have on : wpAny (model P w) A (searchRest a (.ref x) (k.hash w) true f es t (way t.mask (k.hash w) (c + q)) i (nth t.mask (pr0 t (k.hash w)) (c + (q + 1)))) Q E s := by
        unfold searchRest; rw [ei]; dsimp only
        refine wpAny_bind (wpAny_holding (eqAt_key p.2 k A s _ _ pis hx (by omega) P w E _ ?_)); rw [← NestedKey.decide_eq]
        refine wpAny_bind (wpAny_setState_of ho hd T.fits ?_); dsimp only
        by_cases ek : p.2 = k
        · refine wp_if_pos (by rw [ek]; simp) (wpAny_pure (yes ?_))
          exact ek ▸ List.mem_map_of_mem (List.mem_of_getElem? hp)
        · refine wp_if_neg (by simp [ek]) ?_
          try refine wpAny_bind (wpAny_pure ?_)
          have sv : t.slot (way t.mask (k.hash w) (c + q)) = .live i := slot_live T.tab.ris hi
          rw [sameMem]; dsimp only; simp only [if_true, sv, ei, pb]
          refine wpAny_bind (wpAny_isSame_ref_self (wpAny_bind (wpAny_pure ?_))); simp only [if_true]
          refine wp_if_neg (by simp [ek]) (ih (c + (q + 1)) _ rfl (by omega) (by omega) fun i0 p0 h0 k0 => ?_)
          obtain ⟨c', a1, a2, a3⟩ := ahead i0 p0 h0 k0
          refine ⟨c', ?_, a2, a3⟩
          by_cases z : c' = c + q
          · rw [z] at a3
            have e3 := sv.symm.trans (slot_live T.tab.ris a3)
            injection e3 with e3
            rw [← e3, hp] at h0
            exact absurd ((congrArg (·.2) (Option.some.inj h0)).trans k0) ek
          · by_cases y : c' < c + q
            · exact absurd ((T.hash h0).trans (congrArg (NestedKey.hash w) k0)) (hno (c' - c) i0 (by omega) (by rw [sj, Nat.add_sub_cancel' a1]; exact a3))
            · omega
      by_cases hl : t.led = true
      · refine wp_if_neg (by rw [hl]; decide) ?_
        try refine wpAny_bind (wpAny_pure ?_)
        exact on
      · refine wp_if_pos (by simpa using hl) (wpAny_bind (seen_key hx dk (fun y hy => ?_) A E _ ?_))
        · obtain ⟨e, he, rfl⟩ := List.mem_map.mp hy
          have h1 : e ∈ es.toList := by simpa using (Array.mem_filter.mp (Array.mem_toList_iff.mp he)).1
          rw [T.rows] at h1
          obtain ⟨p2, hp2, rfl⟩ := List.mem_map.mp h1
          exact ⟨p2.2, (R.is p2 hp2).1, (R.is p2 hp2).2.1⟩
        · refine wp_if_neg (by decide) ?_
          try refine wpAny_bind (wpAny_pure ?_)
          exact on
    · rw [sj, Nat.add_sub_cancel' hc] at hpr
      rw [show t.probe (fun i => (es[i]?.map (·.1)).getD 0) (k.hash w) (stand.getD (t.probeStart (k.hash w))) = _ from (congrArg _ e0).trans hpr]; dsimp only
      refine wpAny_pure (no fun hm => ?_)
      obtain ⟨p0, m0, k0⟩ := List.mem_map.mp hm
      obtain ⟨i0, h0⟩ := List.getElem?_of_mem m0
      obtain ⟨c', a1, a2, a3⟩ := ahead i0 p0 h0 k0
      exact absurd ((T.hash h0).trans (congrArg (NestedKey.hash w) k0)) (hno (c' - c) i0 (by omega) (by rw [sj, Nat.add_sub_cancel' a1]; exact a3))
theorem key_same {h h' : Heap} {k : NK} {v : Value} {o : Obj} (x : NestedIs h k v) (ho : h.get? a = some o) (hd : o.data = .set es ep t) (hs : Heap.SameBut a h h') : NestedIs h' k v :=
  NestedIs.at (fun b u vs n e1 e2 => (hs.2 b fun z => by rw [z, ho] at e1; cases e1; rw [hd] at e2; cases e2).trans e1) k v x
theorem add_ref (R : SG P w s.heap a L es ep t) {x : Addr} {k : NK} (hx : NestedIs s.heap k (.ref x)) (dk : k.depth ≤ 8) (hu : A.units + 8 < cLine) (h64 : L.length + 1 < 64) {Q : Bool → Shared → Prop}
    (hQ : ∀ b h' L' es' ep' t', Heap.SameBut a s.heap h' → SG P w h' a L' es' ep' t' → (k ∈ L.map (·.2) → L' = L) → (k ∉ L.map (·.2) → L'.Perm ((.ref x, k) :: L)) → Q b { s with heap := h' }) :
    wpAny (model P w) A (setAddHashed a (.ref x) (k.hash w)) Q E s := by
  obtain ⟨o, ho, hex, hd⟩ := R.ob
  have T := R.tg
  obtain ⟨K, k1, k2, k3, k4⟩ := T.free R.room (k.hash w)
  unfold setAddHashed; refine wpAny_holding ?_
  rw [show (100000 : Nat) = 99999 + 1 from rfl, setAddHashedIn_succ]; refine wpAny_bind (wpAny_setState_of ho hd T.fits ?_); dsimp only
  refine wp_if_neg (by simp [byScan, Value.scannable]) ?_
  try refine wpAny_bind (wpAny_pure ?_)
  refine wpAny_bind (show wpAny _ _ (setSearchFrom _ _ _ true 100000 none) _ _ s from search_way R hx dk hu k1 k3 k4 (fun hm => ?_) (fun hm => ?_) 100000 0 none rfl (Nat.zero_le _) (by omega) fun i p hp hk => ?_)
  · dsimp only; exact wpAny_pure (hQ false s.heap L es ep t (.refl a _) R (fun _ => rfl) fun z => absurd hm z)
  · dsimp only; refine wpAny_bind (wpAny_setState_of ho hd T.fits ?_); dsimp only
    obtain ⟨L1, pm, q1, T1, em, el, ef⟩ := T.put R.room h64 (.ref x) k3 k4
    have ln : L1.length = L.length + 1 := pm.length_eq
    obtain ⟨hb, hbg⟩ := hb_key (P := P) (w := w) k (.ref x) 8 hx dk
    have nd1 : (L1.map (·.2)).Nodup := (pm.map (·.2)).nodup_iff.mpr (List.nodup_cons.mpr ⟨hm, R.nd⟩)
    have is1 : ∀ {h' : Heap} {L2 : List (Value × NK)}, Heap.SameBut a s.heap h' → L2.Perm L1 → ∀ p ∈ L2, NestedIs h' p.2 p.1 ∧ p.2.depth ≤ 8 ∧ ∃ b, p.1 = .ref b := fun {h' L2} sb pp p hp => by
      rcases List.mem_cons.mp (pm.mem_iff.mp (pp.mem_iff.mp hp)) with e | hp
      · rw [e]; exact ⟨key_same hx ho hd sb, dk, x, rfl⟩
      · exact ⟨key_same (R.is p hp).1 ho hd sb, (R.is p hp).2⟩
    -- behind the question
    have tail : ∀ t1 : SetTable, TG w L1 (SetTable.insertAt es (t.put (way t.mask (k.hash w) K)).2 (k.hash w, Value.ref x)) t1 → t1.mask = t.mask → t1.led = t.led → t1.fill = L.length + 1 →
        wpAny (model P w) A (do storeSet a (SetTable.insertAt es (t.put (way t.mask (k.hash w) K)).2 (k.hash w, Value.ref x)) t1; if (!false && t1.tooFull) = true then do setRelay a (SetTable.grown (es.size + 1)); pure true else pure true) Q E s := by
      intro t1 T1 em el ef
      have sz1 := T1.size
      have sz : es.size + 1 = (SetTable.insertAt es (t.put (way t.mask (k.hash w) K)).2 (k.hash w, Value.ref x)).size := by rw [sz1, T.size, ln]
      rw [sz]
      generalize SetTable.insertAt es (t.put (way t.mask (k.hash w) K)).2 (k.hash w, Value.ref x) = es1 at T1 sz1 ⊢
      have few := T1.few
      refine wpAny_bind (wpAny_storeSet_of ho hd ?_ (by rw [sz1, sizeLine_eq]; omega))
      have sb := Heap.SameBut.update s.heap a (Obj.putSet es1 t1)
      have ho1 := store_at (es' := es1) (t' := t1) ho hd
      generalize s.heap.update a (Obj.putSet es1 t1) = h1 at sb ho1 ⊢
      by_cases full : t1.tooFull = true
      · obtain ⟨t2, order, L2, r1, r2, r3, r4, r5, r6, r7⟩ := T1.grow T.tab.mok R.room ln em ef full
        have sz2 : (order.filterMap (es1[·]?)).size = es1.size := by rw [r4.size, r3.length_eq, sz1]
        refine wp_if_pos (by rw [full]; rfl) (wpAny_bind ?_)
        rw [setRelay_eq]; refine wpAny_bind (wpAny_setState_of (s := { s with heap := h1 }) ho1 rfl T1.fits ?_); dsimp only
        refine wp_if_neg (by rw [sizeLine_eq]; omega) ?_
        try refine wpAny_bind (wpAny_pure ?_)
        rw [r1]; dsimp only
        refine wpAny_bind (wp_if_neg (by rw [sz2]; simp) ?_)
        try refine wpAny_bind (wpAny_pure ?_)
        refine wpAny_pure ?_; dsimp only
        refine wpAny_storeSet_of (s := { s with heap := h1 }) ho1 rfl (wpAny_pure ?_) (by rw [sz2, sz1, sizeLine_eq]; omega)
        have sb2 := sb.trans (Heap.SameBut.update h1 a (Obj.putSet (order.filterMap (es1[·]?)) t2))
        exact hQ true _ L2 _ (ep + 1 + 1) t2 sb2 ⟨⟨_, store_at ho1 rfl, ⟨hex.1, hex.2.1, hex.2.2⟩, rfl⟩, r4, (r3.map (·.2)).nodup_iff.mpr nd1, is1 sb2 r3, by rw [r5, el]; exact R.led, r6⟩ (fun z => absurd z hm) fun _ => r3.trans pm
      · refine wp_if_neg (by simpa using full) (wpAny_pure ?_)
        exact hQ true h1 L1 es1 (ep + 1) t1 sb ⟨⟨_, ho1, ⟨hex.1, hex.2.1, hex.2.2⟩, rfl⟩, T1, nd1, is1 sb (.refl _), by rw [el]; exact R.led, roomy ln ef full⟩ (fun z => absurd z hm) fun _ => pm
    have both : ∀ b : Bool, wpAny (model P w) A (do storeSet a (SetTable.insertAt es (t.put (way t.mask (k.hash w) K)).2 (k.hash w, Value.ref x)) (if b = true then (t.put (way t.mask (k.hash w) K)).1 else { (t.put (way t.mask (k.hash w) K)).1 with plain := false }); if (!false && (if b = true then (t.put (way t.mask (k.hash w) K)).1 else { (t.put (way t.mask (k.hash w) K)).1 with plain := false }).tooFull) = true then do setRelay a (SetTable.grown (es.size + 1)); pure true else pure true) Q E s := fun b => by
      cases b with
      | true => exact tail _ T1 em el ef
      | false => exact tail _ (T1.set_plain false) em el ef
    by_cases pl : (t.put (way t.mask (k.hash w) K)).1.plain = true
    · refine wp_if_pos pl (wpAny_bind (hbg A E _ ?_)); exact both hb
    · refine wp_if_neg pl ?_; first | exact both true | exact wpAny_bind (wpAny_pure (both true))
  · have h1 : (L.map fun p => p.2.hash w)[i]? = some (k.hash w) := by rw [List.getElem?_map, hp, ← hk]; rfl
    have h2 : i < t.place.toList.length := by rw [Array.length_toList, T.place]; exact (List.getElem?_eq_some_iff.mp hp).1
    obtain ⟨c, c1, c2⟩ := T.tab.before k3 h1 (List.getElem?_eq_getElem h2)
    exact ⟨c, Nat.zero_le _, c1, by rw [c2]; exact List.getElem?_eq_getElem h2⟩
end
end VE
namespace VE
open PySem PySem.Spec PyProof.Rows L2
section
variable {P : Program} {w : World} {κ : Type} [DecidableEq κ] (knd : KeyKind P w κ)
structure SF (h : Heap) (a : Addr) (L : List (Value × κ)) (es : Array (Int × Value)) (ep : Nat) (t : SetTable) : Prop where
  ob : ∃ o, h.get? a = some o ∧ o.ExactSet ∧ o.data = .set es ep t
  rows : es.toList.Perm (L.map fun p => (knd.hash p.2, p.1))
  nd : (L.map (·.2)).Nodup
  is : ∀ p ∈ L, knd.is p.2 p.1 = true ∧ p.1.scannable = true
  fits : t.fits es.size = true
  ris : Ris t.place.toList
  led : w.params.followText "set-order" = true ∨ t.led = true
  few : L.length < scanBound
variable {knd} {A : Around} {E : Value → Shared → Prop} {s : Shared} {a : Addr} {L : List (Value × κ)} {es : Array (Int × Value)} {ep : Nat} {t : SetTable}
theorem SF.size {h : Heap} (R : SF knd h a L es ep t) : es.size = L.length := by
  have := R.rows.length_eq
  rwa [List.length_map, Array.length_toList] at this
theorem SF.elems {h : Heap} (R : SF knd h a L es ep t) : ElemsOf knd es.toList := fun e he => by
  obtain ⟨p, hp, rfl⟩ := List.mem_map.mp (R.rows.mem_iff.mp he)
  exact ⟨⟨p.2, (R.is p hp).1, rfl⟩, (R.is p hp).2⟩
theorem layNew_at (t : SetTable) (es : Array (Int × Value)) (h : Int) (x : Value) {L : List (Value × κ)} {k : κ} (hr : es.toList.Perm (L.map fun p => (knd.hash p.2, p.1))) (e : h = knd.hash k) : (layNew t es h x).1.toList.Perm (((x, k) :: L).map fun p => (knd.hash p.2, p.1)) := by
  refine (layNew_perm t es h x).trans ?_
  rw [Array.toList_push, List.map_cons, e]
  exact (List.perm_append_singleton _ _).trans (hr.cons _)
theorem add_flat (R : SF knd s.heap a L es ep t) {x : Value} {k : κ} (hx : knd.is k x = true) (hs : x.scannable = true) (room : L.length + 1 < scanBound) {Q : Bool → Shared → Prop}
    (hQ : ∀ b h' L' es' ep' t', Heap.SameBut a s.heap h' → SF knd h' a L' es' ep' t' → (k ∈ L.map (·.2) → L' = L) → (k ∉ L.map (·.2) → L' = (x, k) :: L) → Q b { s with heap := h' }) :
    wpAny (model P w) A (setAddHashed a x (knd.hash k)) Q E s := by
  obtain ⟨o, ho, hex, hd⟩ := R.ob
  have few := R.few
  have sz := R.size
  unfold setAddHashed; refine wpAny_holding ?_
  rw [show (100000 : Nat) = 99999 + 1 from rfl, setAddHashedIn_succ]; refine wpAny_bind (wpAny_setState_of ho hd R.fits ?_); dsimp only
  rw [byScan_of hs (by omega) R.elems]; simp only [↓reduceIte]
  unfold setAddByScan
  refine wpAny_bind (wpAny_bind (wpAny_rule (wpAny_bind (wpAny_setScan_of hx ho hd R.fits R.elems ?_))))
  cases hf : List.findIdx? (fun e => knd.is k e.2) es.toList with
  | some j =>
    dsimp only
    obtain ⟨hj, pj, _⟩ := List.findIdx?_eq_some_iff_getElem.mp hf
    have hm : k ∈ L.map (·.2) := by
      obtain ⟨p, hp, e⟩ := List.mem_map.mp (R.rows.mem_iff.mp (List.getElem_mem hj))
      rw [← e] at pj
      exact List.mem_map.mpr ⟨p, hp, knd.inj p.1 p.2 k (R.is p hp).1 pj⟩
    exact wpAny_pure (wpAny_pure (hQ false s.heap L es ep t (.refl a _) R (fun _ => rfl) fun z => absurd hm z))
  | none =>
    dsimp only
    have hm : k ∉ L.map (·.2) := fun z => by
      obtain ⟨p, hp, e⟩ := List.mem_map.mp z
      have c := List.findIdx?_eq_none_iff.mp hf _ (R.rows.mem_iff.mpr (List.mem_map_of_mem hp))
      have h1 := (R.is p hp).1
      rw [e] at h1
      exact absurd (h1.symm.trans c) (by decide)
    have gw : ∀ (b : Bool) {s' : Shared} {Q' : Unit → Shared → Prop}, Q' () s' → wpAny (model P w) A (match b with | true => rule "set.scan.the-table-gave-way" | false => pure ()) Q' E s' := fun b s' Q' q => by
      cases b with
      | true => exact wpAny_rule q
      | false => exact wpAny_pure q
    have rows1 := layNew_at (knd := knd) t es (knd.hash k) x R.rows rfl
    have fit1 := layNew_fits t es (knd.hash k) x
    have ris1 := layNew_ris t es (knd.hash k) x R.ris
    have led1 := layNew_led t es (knd.hash k) x
    generalize layNew t es (knd.hash k) x = Z at rows1 fit1 ris1 led1 ⊢
    obtain ⟨es1, t1, was, gave⟩ := Z
    dsimp only at rows1 fit1 ris1 led1 ⊢
    have sz1 : es1.size = L.length + 1 := by
      have := rows1.length_eq
      rwa [List.length_map, Array.length_toList, List.length_cons] at this
    have is1 : ∀ p ∈ (x, k) :: L, knd.is p.2 p.1 = true ∧ p.1.scannable = true := fun p hp => by
      rcases List.mem_cons.mp hp with e | hp
      · rw [e]; exact ⟨hx, hs⟩
      · exact R.is p hp
    have zl : scanBound ≤ sizeLine := by rw [sizeLine_eq]; decide
    -- behind the storing
    have tail : ∀ t2 : SetTable, t2.fits es1.size = true → Ris t2.place.toList → t2.led = t.led →
        wpAny (model P w) A (do
          storeSet a es1 t2
          if (!was && t2.tooFull) = true then do
              (match (relayAll t2 es1 (SetTable.grown es1.size)).2.2 with | true => rule "set.scan.the-table-gave-way" | false => pure ())
              storeSet a (relayAll t2 es1 (SetTable.grown es1.size)).1 (relayAll t2 es1 (SetTable.grown es1.size)).2.1
              pure (some true)
            else pure (some true)) (fun r s' => wpAny (model P w) A (match r with | some added => pure added | none => setAddHashedIn a x (knd.hash k) 99999) Q E s') E s := by
      intro t2 f2 r2 l2
      refine wpAny_bind (wpAny_storeSet_of ho hd ?_ (by omega))
      have ho1 := store_at (es' := es1) (t' := t2) ho hd
      have sb1 := Heap.SameBut.update s.heap a (Obj.putSet es1 t2)
      generalize s.heap.update a (Obj.putSet es1 t2) = h1 at ho1 sb1 ⊢
      by_cases full : (!was && t2.tooFull) = true
      · refine wp_if_pos full ?_
        have pm := relayAll_perm t2 es1 (SetTable.grown es1.size)
        have f3 := relayAll_fits t2 es1 (SetTable.grown es1.size)
        have r3 := relayAll_ris t2 es1 (SetTable.grown es1.size)
        have l3 := relayAll_led t2 es1 (SetTable.grown es1.size)
        generalize relayAll t2 es1 (SetTable.grown es1.size) = Z at pm f3 r3 l3 ⊢
        obtain ⟨es2, t3, g3⟩ := Z
        dsimp only at pm f3 r3 l3 ⊢
        have sz2 : es2.size = es1.size := by have := pm.length_eq; rwa [Array.length_toList, Array.length_toList] at this
        refine wpAny_bind (gw _ (wpAny_bind (wpAny_storeSet_of (s := { s with heap := h1 }) ho1 rfl ?_ (by omega))))
        have sb2 := sb1.trans (Heap.SameBut.update h1 a (Obj.putSet es2 t3))
        exact wpAny_pure (wpAny_pure (hQ true _ _ es2 _ t3 sb2 ⟨⟨_, store_at ho1 rfl, hex, rfl⟩, pm.trans rows1, List.nodup_cons.mpr ⟨hm, R.nd⟩, is1, f3, r3, by rw [l3, l2]; exact R.led, room⟩ (fun z => absurd z hm) fun _ => rfl))
      · refine wp_if_neg full (wpAny_pure (wpAny_pure ?_))
        exact hQ true h1 _ es1 _ t2 sb1 ⟨⟨_, ho1, hex, rfl⟩, rows1, List.nodup_cons.mpr ⟨hm, R.nd⟩, is1, f2, r2, by rw [l2]; exact R.led, room⟩ (fun z => absurd z hm) fun _ => rfl
    have both : ∀ b : Bool, _ := fun b => tail (if b = true then t1 else { t1 with plain := false }) (by cases b <;> exact fit1) (by cases b <;> exact ris1) (by cases b <;> exact led1)
    refine wpAny_bind (gw _ ?_)
    by_cases pl : t1.plain = true
    · refine wp_if_pos pl (wpAny_bind ?_)
      rw [hashByValue_scannable 8 hs]
      exact wpAny_pure (both _)
    · refine wp_if_neg pl ?_
      first | exact both true | exact wpAny_bind (wpAny_pure (both true))
theorem SF.keep {h h' : Heap} (R : SF knd h a L es ep t) (k : ∀ o, h.get? a = some o → h'.get? a = some o) : SF knd h' a L es ep t := by
  obtain ⟨o, ho, r⟩ := R.ob
  exact ⟨⟨o, k o ho, r⟩, R.rows, R.nd, R.is, R.fits, R.ris, R.led, R.few⟩
theorem SG.keep {P : Program} {w : World} {h h' : Heap} {L : List (Value × NK)} (R : SG P w h a L es ep t) (k : ∀ o, h.get? a = some o → h'.get? a = some o) (is : ∀ p ∈ L, NestedIs h' p.2 p.1) : SG P w h' a L es ep t := by
  obtain ⟨o, ho, r⟩ := R.ob
  exact ⟨⟨o, k o ho, r⟩, R.tg, R.nd, fun p hp => ⟨is p hp, (R.is p hp).2⟩, R.led, R.room⟩
end
end VE
namespace VE
open PySem PySem.Spec PyProof.Rows L2
abbrev set0 (w : World) : Obj := { cls := .type "set", dict := none, data := .set #[] 0 (.fresh 0 0 (!w.params.followText "set-order")) }
structure Keeps (P : Program) (w : World) (κ : Type) (room : Around → Prop) (cap : Nat) where
  St : Heap → Addr → List (Value × κ) → Prop
  isK : Heap → κ → Value → Prop
  there : ∀ {h a L}, St h a L → ∃ o es ep t, h.get? a = some o ∧ o.ExactSet ∧ o.data = .set es ep t ∧ t.fits es.size = true ∧ Ris t.place.toList ∧ (w.params.followText "set-order" = true ∨ t.led = true) ∧ es.size < scanBound ∧ (es.toList.map (·.2)).Perm (L.map (·.1))
  nd : ∀ {h a L}, St h a L → (L.map (·.2)).Nodup
  keep : ∀ {h h' : Heap} {a L}, St h a L → (∀ o, h.get? a = some o → h'.get? a = some o) → (∀ p ∈ L, isK h' p.2 p.1) → St h' a L
  fresh : ∀ {h a}, h.get? a = some (set0 w) → St h a []
  keepK : ∀ {h h' k v}, isK h k v → (∀ b o, h.get? b = some o → h'.get? b = some o) → isK h' k v
  add : ∀ {A : Around} {E : Value → Shared → Prop} {s : Shared} {a : Addr} {L : List (Value × κ)} {k : κ} {v : Value} {Q : Bool → Shared → Prop}, room A → St s.heap a L → isK s.heap k v → L.length + 1 < cap →
    (∀ b h' tk L', s.toks ≤ tk → Heap.SameBut a s.heap h' → St h' a L' → (k ∈ L.map (·.2) → L' = L) → (k ∉ L.map (·.2) → L'.Perm ((v, k) :: L)) → Q b { s with heap := h', toks := tk }) → wpAny (model P w) A (setAdd a v) Q E s
section
variable {P : Program} {w : World} {κ : Type} {room : Around → Prop} {cap : Nat}
structure Has (ks : List (Value × κ)) (i : Nat) (L : List (Value × κ)) : Prop where
  sub : ∀ p ∈ L, p ∈ ks.take i
  all : ∀ p ∈ ks.take i, p.2 ∈ L.map (·.2)
  len : L.length ≤ i
theorem take_one {α : Type} {l : List α} {i : Nat} {x : α} (h : l[i]? = some x) : l.take (i + 1) = l.take i ++ [x] := by rw [List.take_succ, h]; rfl
theorem Has.next {ks L L' : List (Value × κ)} {i : Nat} {p : Value × κ} (g : Has ks i L) (h : ks[i]? = some p) (y : p.2 ∈ L.map (·.2) → L' = L) (n : p.2 ∉ L.map (·.2) → L'.Perm (p :: L)) : Has ks (i + 1) L' := by
  have e := take_one h
  by_cases m : p.2 ∈ L.map (·.2)
  · cases y m
    refine ⟨fun q hq => ?_, fun q hq => ?_, Nat.le_succ_of_le g.len⟩
    · rw [e]; exact List.mem_append_left _ (g.sub q hq)
    · rw [e] at hq
      rcases List.mem_append.mp hq with z | z
      · exact g.all q z
      · rw [List.mem_singleton.mp z]; exact m
  · have pm := n m
    refine ⟨fun q hq => ?_, fun q hq => ?_, by rw [pm.length_eq]; exact Nat.succ_le_succ g.len⟩
    · rw [e]
      rcases List.mem_cons.mp (pm.mem_iff.mp hq) with z | z
      · rw [z]; exact List.mem_append_right _ List.mem_cons_self
      · exact List.mem_append_left _ (g.sub q z)
    · rw [(pm.map (·.2)).mem_iff]
      rw [e] at hq
      rcases List.mem_append.mp hq with z | z
      · exact List.mem_cons_of_mem _ (g.all q z)
      · rw [List.mem_singleton.mp z]; exact List.mem_cons_self
variable (κs : Keeps P w κ room cap) {A : Around} {E : Value → Shared → Prop} {s : Shared}
theorem set_loop {I : Addr} {fp wr : List Addr} {G : Array GenState → Array GenState → Prop} {n : Nat} {Pv : Nat → Value → Prop} {St : Nat → Shared → Prop} {R : Result → Shared → Prop} (W : WalksS P w A.in1 I fp wr G n Pv St) {S : Addr} (hSf : S ∉ fp)
    (ks : List (Value × κ)) (hn : n = ks.length) (hcap : ks.length < cap) (hval : ∀ i v, Pv i v → ∃ p, ks[i]? = some p ∧ v = p.1) (h0 : Heap) (hk : ∀ p ∈ ks, κs.isK h0 p.2 p.1) (hS0 : h0.get? S = none) (hw0 : ∀ b ∈ wr, h0.get? b = none) (hu : room A.in1) :
    ∀ (m i : Nat) (s : Shared), n - i = m → i ≤ n → St i s → (∀ b o, h0.get? b = some o → s.heap.get? b = some o) → (∃ L, κs.St s.heap S L ∧ Has ks i L) →
      (∀ s' L, Moved (S :: wr) G s s' → κs.St s'.heap S L → Has ks n L → (∀ b o, h0.get? b = some o → s'.heap.get? b = some o) → R (.ok (.ret .none)) s') →
      codeAny (model P w) A (.builtin "set.update.loop" ⟨[.ref S, .ref I], []⟩) R s := by
  have hSw : S ∉ wr := fun z => hSf (W.sub _ z)
  have stay : ∀ {s s' : Shared}, Moved wr G s s' → (∀ b o, h0.get? b = some o → s.heap.get? b = some o) → ∀ b o, h0.get? b = some o → s'.heap.get? b = some o := fun mv h b o e => mv.heap b o (fun z => by rw [hw0 b z] at e; cases e) (h b o e)
  have still : ∀ {s s' : Shared} {L : List (Value × κ)} {i : Nat}, Moved wr G s s' → (∀ b o, h0.get? b = some o → s.heap.get? b = some o) → Has ks i L → κs.St s.heap S L → κs.St s'.heap S L := fun mv h g x => κs.keep x (fun o => mv.heap S o hSw) fun p hp => κs.keepK (hk p (List.mem_of_mem_take (g.sub p hp))) (stay mv h)
  intro m
  induction m with
  | zero =>
    intro i s e hi hst h1 ⟨L, hL, g⟩ hR
    obtain rfl : i = n := by omega
    refine codeAny_builtin F.entry_set_update_loop ?_
    rw [Around.under_plainId F.plain_set_update_loop _]
    show wpAny _ A.in1 (pyNext (.ref I) >>= _) _ _ s
    refine wpAny_bind (W.done s _ _ hst fun s' mv => show wpAny _ A.in1 (ret Value.none) _ _ s' from ?_)
    exact wpAny_pure (hR s' L (mv.mono fun b z => List.mem_cons_of_mem _ z) (still mv h1 g hL) g (stay mv h1))
  | succ m ih =>
    intro i s e hi hst h1 ⟨L, hL, g⟩ hR
    have hlt : i < n := by omega
    refine codeAny_builtin F.entry_set_update_loop ?_
    rw [Around.under_plainId F.plain_set_update_loop _]
    show wpAny _ A.in1 (pyNext (.ref I) >>= _) _ _ s
    refine wpAny_bind (W.item i s _ _ hlt hst fun v s' hP hst' mv => ?_)
    obtain ⟨p, hp, rfl⟩ := hval i v hP
    have h2 := stay mv h1
    have len := g.len
    show wpAny _ A.in1 (holding [p.1] (setAdd S p.1) >>= _) _ _ s'
    refine wpAny_bind (wpAny_holding (κs.add hu (still mv h1 g hL) (κs.keepK (hk p (List.mem_of_getElem? hp)) h2) (by omega) fun b h' tk L' tl sb hL' y nn => ?_))
    have h3 : ∀ b o, h0.get? b = some o → h'.get? b = some o := fun b o q => (sb.2 b fun z => by rw [z, hS0] at q; cases q).trans (h2 b o q)
    refine wpAny_pure ⟨plainId_quiet F.plain_set_update_loop _, ih (i + 1) _ (by omega) hlt (W.frame _ s' _ _ hst' tl fun b hb o q => (sb.2 b fun z => hSf (z ▸ hb)).trans q) h3 ⟨L', hL', g.next hp y nn⟩ fun s'' L2 mv2 hL2 g2 h4 => ?_⟩
    refine hR s'' L2 (Moved.trans W.gtrans ((mv.mono fun b z => List.mem_cons_of_mem _ z).then_heap tl fun b o hb q => ?_) mv2) hL2 g2 h4
    exact (sb.2 b fun z => hb (z ▸ List.mem_cons_self)).trans q
end
end VE
namespace VE
open PySem PySem.Spec PyProof.Rows L2
section
variable {P : Program} {w : World} {κ : Type} {room : Around → Prop} {cap : Nat} (κs : Keeps P w κ room cap) {A : Around} {E : Value → Shared → Prop} {s : Shared}
theorem get_end (h : Heap) : h.get? h.objs.size = none := by
  cases q : h.get? h.objs.size with
  | none => rfl
  | some o => exact absurd (Heap.lt_size q) (Nat.lt_irrefl _)
theorem get_past {h : Heap} {b : Addr} (hb : h.objs.size ≤ b) : h.get? b = none := by
  cases q : h.get? b with
  | none => rfl
  | some o => exact absurd (Nat.lt_of_lt_of_le (Heap.lt_size q) hb) (Nat.lt_irrefl _)
def Filled (ks : List (Value × κ)) (s : Shared) (r : Value) (s' : Shared) : Prop := r = .none ∧ ∃ h' tk L, s' = { s with heap := h', toks := tk } ∧ κs.St h' s.heap.objs.size L ∧ Has ks ks.length L ∧ ∀ b o, s.heap.get? b = some o → h'.get? b = some o
theorem init_set {l : Addr} {items : Array Value} (ks : List (Value × κ)) (hh : A.handled = none) (hl : s.heap.IsList l items) (hit : items.toList = ks.map (·.1)) (hk : ∀ p ∈ ks, κs.isK s.heap p.2 p.1) (hcap : ks.length < cap) (hu : room A.in1) {R : PySem.Fin → Shared → Prop}
    (h : ∀ s', Filled κs ks s .none s' → R (.done (.ret .none)) s') :
    wpAny (model P w) A (Builtin.«set.__init__» ⟨[.ref s.heap.objs.size, .ref l], []⟩) R E { s with heap := s.heap.push (set0 w) } := by
  have hsz : items.size = ks.length := by
    have := congrArg List.length hit
    rwa [Array.length_toList, List.length_map] at this
  have hS : (s.heap.push (set0 w)).get? s.heap.objs.size = some (set0 w) := Heap.get?_push_size _ rfl
  have lS : l < s.heap.objs.size := by obtain ⟨o, q, _⟩ := hl; exact Heap.lt_size q
  obtain ⟨⟨c0, d0, dt0, sl0⟩, hol, hcl, nl, hdl⟩ := hl
  simp only at hcl hdl
  subst hcl; subst hdl
  have hl1 : (s.heap.push (set0 w)).get? l = some { cls := .type "list", dict := d0, data := .seq items nl, slots := sl0 } := Heap.get?_push_of_some _ hol
  have isl : (s.heap.push (set0 w)).IsList l items := ⟨_, hl1, rfl, nl, rfl⟩
  have q1 := F.sub_list_set
  have q2 := F.sub_list_frozenset
  have q3 : (Value.type "list" == Value.type "dict") = false := by decide
  unfold Builtin.«set.__init__» noKeywords Builtin.Frozenset.updateFrom
  generalize gPI : pyIter = PI
  wp_walk
  subst gPI
  refine wpAny_pyIter_list isl (wpAny_bind (wpAny_runValue ?_))
  have nI : l ≠ (s.heap.push (set0 w)).objs.size := by rw [Heap.size_push]; exact Nat.ne_of_lt (Nat.lt_succ_of_lt lS)
  have nS : s.heap.objs.size ∉ [(s.heap.push (set0 w)).objs.size, l] := by
    rw [Heap.size_push]; simp only [List.mem_cons, List.not_mem_nil, or_false, not_or]; exact ⟨Nat.ne_of_lt (Nat.lt_succ_self _), Nat.ne_of_gt lS⟩
  refine set_loop κs ((Walks.list (show A.in1.handled = none from hh) _ l nI items).toS) nS ks hsz hcap (fun i v hv => ?_) s.heap hk (get_end _) (fun b hb => get_past ?_) hu (items.size - 0) 0 _ (by omega) (Nat.zero_le _)
    ⟨⟨_, Heap.get?_push_size _ rfl, rfl, rfl⟩, isl.push _⟩ (fun b o e => Heap.get?_push_of_some _ (Heap.get?_push_of_some _ e)) ⟨[], κs.fresh (Heap.get?_push_of_some _ hS), ⟨fun p hp => (by cases hp), fun p hp => (by simp at hp), Nat.le_refl _⟩⟩ fun s' L mv hL g keep => ?_
  · have q : items.toList[i]? = some v := by rw [Array.getElem?_toList]; exact hv
    rw [hit, List.getElem?_map] at q
    cases e : ks[i]? with
    | none => rw [e] at q; cases q
    | some p => rw [e] at q; exact ⟨p, rfl, (Option.some.inj q).symm⟩
  · rw [List.mem_singleton.mp hb, Heap.size_push]; exact Nat.le_succ _
  · obtain ⟨h', g', d', tk', os'⟩ := s'
    cases (show g' = s.gens from mv.gens); cases (show d' = s.drawn from mv.drawn); cases (show os' = s.os from mv.os)
    show wpAny _ _ _ _ _ _
    refine wpAny_pure (show wpAny _ _ (ret Value.none) _ _ _ from wpAny_pure (h _ ⟨rfl, h', tk', L, rfl, hL, ?_, keep⟩))
    rwa [hsz] at g
theorem call_setK {l : Addr} {items : Array Value} (ks : List (Value × κ)) {Q : Value → Shared → Prop} (hh : A.handled = none) (hl : s.heap.IsList l items) (hit : items.toList = ks.map (·.1)) (hk : ∀ p ∈ ks, κs.isK s.heap p.2 p.1) (hcap : ks.length < cap) (hu : room A.in1.in1.in1)
    (h : ∀ (h' : Heap) (tk : Nat) L, κs.St h' s.heap.objs.size L → Has ks ks.length L → (∀ b o, s.heap.get? b = some o → h'.get? b = some o) → Q (.ref s.heap.objs.size) { s with heap := h', toks := tk }) : wpAny (model P w) A (call (.type "set") [.ref l]) Q E s := by
  obtain ⟨c, tl, hmro⟩ := F.called_set.mro
  have hmade := F.called_set.made; have hsub := F.called_set.sub; have h1 := F.called_set.notType; have h2 := F.called_set.canCreate; have hct := F.typeCall_set_1 (.ref l)
  refine wpAny_call (codeAny_of_tree (show wpAny _ _ (callAny (.type "set") _) _ _ _ from wpAny_pure ⟨Code.quiet_builtin _ (by decide +kernel), codeAny_builtin F.entry_type_call ?_⟩))
  rw [Around.under_plain (weight_type_call_type "set" [.ref l] []) rfl]
  repeat (any_goals (first | assumption | wp_step))
  refine codeAny_mono (code_set_led1 (.ref l) (E := E) (Q₁ := fun obj s₁ => obj = .ref s.heap.objs.size ∧ s₁ = { s with heap := s.heap.push (set0 w) }) ⟨rfl, rfl⟩) fun r s₁ hr => ?_
  rcases r with e | fl
  · exact hr
  · rcases fl with obj | _ | _ | _
    case ret =>
      obtain ⟨rfl, rfl⟩ := hr
      have hT : Shared.TypeIs { s with heap := s.heap.push (set0 w) } (.ref s.heap.objs.size) "set" := ⟨_, Heap.get?_push_size _ rfl, rfl⟩
      have hli := F.called_set.init.lookup; have hbi := F.called_set.init.bind (.ref s.heap.objs.size)
      repeat (any_goals (first | assumption | wp_step))
      refine codeAny_mono (codeAny_call_builtin (R := wants (Filled κs ks s) E) F.called_set.init.plain F.entry_set_init (check_set_init_1 hT (init_set κs (A := A.in1.in1) (E := fun e s' => wants (Filled κs ks s) E (Except.error e) s') (R := fun fin s' => match fin with | .done f => wants (Filled κs ks s) E (.ok f) s' | .again c' => c'.quiet = true ∧ codeAny (model P w) A.in1 c' (wants (Filled κs ks s) E) s') ks hh hl hit hk hcap hu fun s' z => z))) fun r₂ s₂ hr₂ => ?_
      rcases r₂ with e | fl₂
      · exact hr₂
      · rcases fl₂ with r | _ | _ | _
        case ret =>
          obtain ⟨rfl, h', tk, L, rfl, z1, z2, z3⟩ := hr₂
          repeat (any_goals (first | assumption | wp_step))
          exact h _ _ _ z1 z2 z3
        all_goals exact hr₂.elim
    all_goals exact hr.elim
end
end VE
namespace VE
open PySem PySem.Spec PyProof.Rows L2 PySem.W
def keepsT (P : Program) (w : World) : Keeps P w NK (fun A => A.units + 8 < cLine) 64 where
  St := fun h a L => ∃ es ep t, SG P w h a L es ep t
  isK := fun h k v => NestedIs h k v ∧ k.depth ≤ 8 ∧ ∃ b, v = .ref b
  there := fun {h a L} ⟨es, ep, t, R⟩ => by
    obtain ⟨o, h1, h2, h3⟩ := R.ob
    refine ⟨o, es, ep, t, h1, h2, h3, R.tg.fits, R.tg.tab.ris, R.led, ?_, ?_⟩
    · rw [R.tg.size]; exact Nat.lt_trans R.tg.few (by decide)
    · rw [R.tg.rows, List.map_map]; exact .refl _
  nd := fun ⟨_, _, _, R⟩ => R.nd
  keep := fun ⟨es, ep, t, R⟩ k is => ⟨es, ep, t, R.keep k fun p hp => (is p hp).1⟩
  fresh := fun {h a} e => by
    refine ⟨#[], 0, _, ⟨_, e, ⟨rfl, rfl, rfl⟩, rfl⟩, ⟨rfl, ⟨List.Pairwise.nil, rfl, rfl, .inl rfl, fun x hx => (by cases hx), fun i h j hi => (by simp at hi)⟩, Nat.zero_le _, by decide⟩, List.nodup_nil, fun p hp => (by cases hp), ?_, by show 0 * 5 < 7 * 3; decide⟩
    show _ ∨ (!w.params.followText "set-order") = true
    cases w.params.followText "set-order" <;> simp
  keepK := fun ⟨x, y⟩ k => ⟨NestedIs.at (fun a o _ _ e _ => k a o e) _ _ x, y⟩
  add := fun {A E s a L k v Q} hu ⟨es, ep, t, R⟩ ⟨x, d, b, e⟩ cap hQ => by
    subst e
    unfold setAdd; refine wpAny_holding (wpAny_bind (pyHash_key k _ A s _ x (by omega) ?_))
    exact add_ref (s := { s with toks := s.toks + k.draws }) R x d hu cap fun b' h' L' es' ep' t' sb R' y n => hQ b' h' _ L' (Nat.le_add_right _ _) sb ⟨es', ep', t', R'⟩ y n
def nkKey : NK → Option Key
  | .num i => some (.inl i)
  | .text x => some (.inr x)
  | _ => none
theorem nkKey_inj {a b : NK} {k : Key} (h : nkKey a = some k) (h' : nkKey b = some k) : a = b := by
  cases a with
  | num i =>
    cases h
    cases b with
    | num j => cases h'; rfl
    | text y => cases h'
    | none => cases h'
    | tup ks => cases h'
  | text i =>
    cases h
    cases b with
    | num j => cases h'
    | text y => cases h'; rfl
    | none => cases h'
    | tup ks => cases h'
  | none => cases h
  | tup ks => cases h
def nkIs (P : Program) (w : World) (k : NK) (v : Value) : Bool := match nkKey k with
  | some kk => (mixKind P w).is kk v
  | none => false
def nkHash (P : Program) (w : World) (k : NK) : Int := match nkKey k with
  | some kk => (mixKind P w).hash kk
  | none => 0
theorem nkIs_of {P : Program} {w : World} {k : NK} {v : Value} (h : nkIs P w k v = true) : ∃ kk, nkKey k = some kk ∧ (mixKind P w).is kk v = true ∧ nkHash P w k = (mixKind P w).hash kk := by
  unfold nkIs at h
  unfold nkHash
  cases e : nkKey k with
  | none => rw [e] at h; cases h
  | some kk => rw [e] at h; exact ⟨kk, rfl, h, rfl⟩
def nkKind (P : Program) (w : World) : PySem.KeyKind P w NK where
  is := nkIs P w
  hash := nkHash P w
  inj := fun v a b ha hb => by
    obtain ⟨x, e, h, _⟩ := nkIs_of ha
    obtain ⟨y, e', h', _⟩ := nkIs_of hb
    rw [(mixKind P w).inj v x y h h'] at e
    exact nkKey_inj e e'
  byValue := fun k v h => by
    obtain ⟨x, _, h, _⟩ := nkIs_of h
    exact (mixKind P w).byValue x v h
  pyHash := fun {A E s k v Q} hv h => by
    obtain ⟨x, _, hx, e⟩ := nkIs_of hv
    exact (mixKind P w).pyHash hx (by rw [← e]; exact h)
  eqBool := fun {A E s a b u v Q} hu hv h => by
    obtain ⟨x, ex, hx, _⟩ := nkIs_of hu
    obtain ⟨y, ey, hy, _⟩ := nkIs_of hv
    refine (mixKind P w).eqBool hx hy ?_
    have e : decide (x = y) = decide (a = b) := by
      by_cases z : a = b
      · subst z; rw [ex] at ey; cases ey; simp
      · have : x ≠ y := fun q => z (nkKey_inj ex (q ▸ ey))
        simp [z, this]
    rw [e]; exact h
  «strs» := fun k x t v h => by
    obtain ⟨y, e, hy, _⟩ := nkIs_of h
    show nkIs P w k v = _
    unfold nkIs
    rw [e]
    exact (mixKind P w).strs y x t v hy
def keepsF (P : Program) (w : World) : Keeps P w NK (fun _ => True) scanBound where
  St := fun h a L => ∃ es ep t, SF (nkKind P w) h a L es ep t
  isK := fun _ k v => (nkKind P w).is k v = true ∧ v.scannable = true
  there := fun {h a L} ⟨es, ep, t, R⟩ => by
    obtain ⟨o, h1, h2, h3⟩ := R.ob
    refine ⟨o, es, ep, t, h1, h2, h3, R.fits, R.ris, R.led, by rw [R.size]; exact R.few, ?_⟩
    have := R.rows.map (·.2)
    rwa [List.map_map] at this
  nd := fun ⟨_, _, _, R⟩ => R.nd
  keep := fun ⟨es, ep, t, R⟩ k _ => ⟨es, ep, t, R.keep k⟩
  fresh := fun {h a} e => by
    refine ⟨#[], 0, _, ⟨_, e, ⟨rfl, rfl, rfl⟩, rfl⟩, .refl _, List.nodup_nil, fun p hp => (by cases hp), rfl, List.Pairwise.nil, ?_, by decide⟩
    show _ ∨ (!w.params.followText "set-order") = true
    cases w.params.followText "set-order" <;> simp
  keepK := fun x _ => x
  add := fun {A E s a L k v Q} hu ⟨es, ep, t, R⟩ x cap hQ => by
    unfold setAdd; refine wpAny_holding (wpAny_bind ((nkKind P w).pyHash x.1 ?_))
    exact add_flat (s := { s with toks := s.toks + 1 }) R x.1 x.2 cap fun b' h' L' es' ep' t' sb R' y n => hQ b' h' _ L' (Nat.le_add_right _ _) sb ⟨es', ep', t', R'⟩ y fun z => by rw [n z]
mutual
theorem reads_old {h : Heap} : ∀ (d : PyData) (v : Value) (as : List Addr), Reads h v d as → ∀ b ∈ as, ∃ o, h.get? b = some o
  | .none, _, _, r, b, hb => by cases r; cases hb
  | .bool _, _, _, r, b, hb => by cases r; cases hb
  | .int _, _, _, r, b, hb => by cases r; cases hb
  | .str _, _, _, r, b, hb => by cases r; cases hb
  | .list xs, _, _, r, b, hb => by
    cases r with
    | list h1 h2 h3 h4 =>
      rcases List.mem_cons.mp hb with e | hb
      · exact ⟨_, e ▸ h1⟩
      · exact readsAll_old xs _ _ h4 b hb
  | .tuple xs, _, _, r, b, hb => by
    cases r with
    | tuple h1 h2 h3 h4 => exact readsAll_old xs _ _ h4 b hb
  | .dict kvs, _, _, r, b, hb => by
    cases r with
    | dict h1 h2 h3 h4 h5 =>
      rw [List.cons_append] at hb
      rcases List.mem_cons.mp hb with e | hb
      · exact ⟨_, e ▸ h1⟩
      · rcases List.mem_append.mp hb with hb | hb
        · exact readsFst_old kvs _ _ h4 b hb
        · exact readsSnd_old kvs _ _ h5 b hb
theorem readsAll_old {h : Heap} : ∀ (ds : List PyData) (vs : List Value) (as : List Addr), ReadsAll h vs ds as → ∀ b ∈ as, ∃ o, h.get? b = some o
  | [], _, _, r, b, hb => by cases r; cases hb
  | d :: ds, _, _, r, b, hb => by
    cases r with
    | cons r1 r2 =>
      rcases List.mem_append.mp hb with hb | hb
      · exact reads_old d _ _ r1 b hb
      · exact readsAll_old ds _ _ r2 b hb
theorem readsFst_old {h : Heap} : ∀ (ds : List (PyData × PyData)) (vs : List Value) (as : List Addr), ReadsAll h vs (ds.map (·.1)) as → ∀ b ∈ as, ∃ o, h.get? b = some o
  | [], _, _, r, b, hb => by cases (show ReadsAll h _ [] _ from r); cases hb
  | (k, d) :: ds, _, _, r, b, hb => by
    cases (show ReadsAll h _ (k :: ds.map (·.1)) _ from r) with
    | cons r1 r2 =>
      rcases List.mem_append.mp hb with hb | hb
      · exact reads_old k _ _ r1 b hb
      · exact readsFst_old ds _ _ r2 b hb
theorem readsSnd_old {h : Heap} : ∀ (ds : List (PyData × PyData)) (vs : List Value) (as : List Addr), ReadsAll h vs (ds.map (·.2)) as → ∀ b ∈ as, ∃ o, h.get? b = some o
  | [], _, _, r, b, hb => by cases (show ReadsAll h _ [] _ from r); cases hb
  | (k, d) :: ds, _, _, r, b, hb => by
    cases (show ReadsAll h _ (d :: ds.map (·.2)) _ from r) with
    | cons r1 r2 =>
      rcases List.mem_append.mp hb with hb | hb
      · exact reads_old d _ _ r1 b hb
      · exact readsSnd_old ds _ _ r2 b hb
end
theorem perm_back {α β : Type} (f : α → β) : ∀ (l : List β) (L : List α), l.Perm (L.map f) → ∃ L' : List α, L'.Perm L ∧ l = L'.map f
  | [], L, h => by
    have := h.length_eq
    rw [List.length_map, List.length_nil] at this
    exact ⟨[], by rw [List.length_eq_zero_iff.mp this.symm], rfl⟩
  | x :: l, L, h => by
    obtain ⟨y, hy, e⟩ := List.mem_map.mp (h.mem_iff.mp List.mem_cons_self)
    obtain ⟨A, B, rfl⟩ := List.append_of_mem hy
    have h2 : (x :: l).Perm (x :: (A ++ B).map f) := by
      refine h.trans ?_
      rw [List.map_append, List.map_cons, e, List.map_append]
      exact List.perm_middle
    obtain ⟨L', p, q⟩ := perm_back f l (A ++ B) h2.cons_inv
    exact ⟨y :: L', (p.cons y).trans List.perm_middle.symm, by rw [List.map_cons, e, q]⟩
section
variable {P : Program} {w : World} {κ : Type} {room : Around → Prop} {cap : Nat} (κs : Keeps P w κ room cap) {A : Around} {E : Value → Shared → Prop} {s : Shared} {a : Addr} {L : List (Value × κ)}
theorem len_setK (x : κs.St s.heap a L) {Q : Value → Shared → Prop} (h : Q (.int (L.length : Nat) (s.toks + 1)) { s with toks := s.toks + 1 + 1 }) : wpAny (model P w) A (call (.builtin "len") [.ref a]) Q E s := by
  obtain ⟨o, es, ep, t, h1, h2, h3, h4, _, _, h7, h8⟩ := κs.there x
  have e : es.size = L.length := by have := h8.length_eq; rwa [List.length_map, List.length_map, Array.length_toList] at this
  refine call_len_set h1 h2 h3 h4 (by unfold scanBound at h7; omega) ?_
  rw [e]; exact h
theorem sorted_setK (x : κs.St s.heap a L) (hh : A.handled = none) (enc : Value × κ → PyData) (rd : ∀ p ∈ L, ∃ as, Reads s.heap p.1 (enc p) as) (hal : AllAlike (L.map enc)) (hk : Sortable (L.map enc)) (hu : ∀ p ∈ L, A.units + 2 + (enc p).depth < cLine) {Q : Value → Shared → Prop}
    (h : ∀ (L' : List (Value × κ)) s' p c, L'.Perm L → (∀ b o, s.heap.get? b = some o → s'.heap.get? b = some o) → s'.gens = s.gens → s'.os = s.os → s.heap.objs.size ≤ p → s'.heap.get? p = some (seqObj "list" ((L'.mergeSort (dataLe false enc)).map (·.1)).toArray c) → Q (.ref p) s') :
    wpAny (model P w) A (call (.builtin "sorted") [.ref a]) Q E s := by
  obtain ⟨o, es, ep, t, h1, h2, h3, h4, h5, h6, h7, h8⟩ := κs.there x
  refine Calls.call_function_entry kind_sorted plain_sorted entry_sorted (args_sorted1 _) ?_
  unfold Builtin.«sorted»
  refine wpAny_bind (m := checkCount "sorted" 1 1 _) (wpAny_pure (wpAny_bind (collect_set (A := A.in1) hh ⟨o, h1, h2.1, h3⟩ h4 h7 h5 h6 fun s1 out keep hz g1 o1 pm => ?_)))
  obtain ⟨L', pL, eo⟩ := perm_back (fun p : Value × κ => p.1) out L (pm.trans h8)
  have lout : out.length ≤ sizeLine := by
    have a1 := pm.length_eq
    rw [List.length_map] at a1; have a3 : es.toList.length = es.size := Array.length_toList
    have a2 : scanBound ≤ sizeLine := by rw [sizeLine_eq]; decide
    omega
  refine wpAny_bind (wpAny_newList ?_ lout)
  have hL : (s1.heap.push (seqObj "list" out.toArray 0)).get? s1.heap.objs.size = some (seqObj "list" out.toArray 0) := Heap.get?_push_size _ rfl
  have each : ∀ {l : List Value} {M : List (Value × κ)} {R : Value → Value × κ → Prop}, l = M.map (·.1) → (∀ p ∈ M, R p.1 p) → EachIs R l M := by
    intro l M R e hM
    subst e
    induction M with
    | nil => exact .nil
    | cons p M ih => exact .cons (hM p List.mem_cons_self) (ih fun q hq => hM q (List.mem_cons_of_mem _ hq))
  refine wpAny_bind (wpAny_holding (list_sort_data (s := { s1 with heap := s1.heap.push (seqObj "list" out.toArray 0) }) (R := fun v p => v = p.1) (bs := L') (enc := enc) hL (each eo fun _ _ => rfl) (each eo fun p hp => ?_) ?_ ?_ (by rw [← List.length_map (f := fun p : Value × κ => p.1), ← eo]; exact lout) (fun p hp => ?_) fun fin lf ef => ?_))
  · obtain ⟨as, r⟩ := rd p (pL.mem_iff.mp hp)
    have r2 : Reads (s1.heap.push (seqObj "list" out.toArray 0)) p.1 (enc p) as := PyProof.Rows.Reads.keeps (fun b u e => Heap.get?_push_of_some _ (keep b u e)) r
    refine ⟨as, r2, fun z => ?_⟩
    obtain ⟨u, hu'⟩ := reads_old _ _ _ r _ z
    exact absurd (Heap.lt_size (keep _ _ hu')) (Nat.lt_irrefl _)
  · intro d hd d' hd'
    exact hal d ((pL.map enc).mem_iff.mp hd) d' ((pL.map enc).mem_iff.mp hd')
  · rcases hk with hk | hk
    · exact .inl fun d hd => hk d ((pL.map enc).mem_iff.mp hd)
    · exact .inr fun d hd => hk d ((pL.map enc).mem_iff.mp hd)
  · exact hu p (pL.mem_iff.mp hp)
  · obtain ⟨c, hc⟩ := sortedHeap_at (vs := out) (out := fin.toArray) hL
    have e2 : fin = (L'.mergeSort (dataLe false enc)).map (·.1) := by
      have go : ∀ {l : List Value} {M : List (Value × κ)}, EachIs (fun v p => v = p.1) l M → l = M.map (·.1) := by
        intro l M z
        induction z with
        | nil => rfl
        | cons e _ ih => rw [List.map_cons, ← ih, e]
      exact go ef
    refine wpAny_pure ⟨_, rfl, h L' _ s1.heap.objs.size c pL (fun b u e => ?_) g1 o1 hz (by rw [← e2]; exact hc)⟩
    have q := keep b u e
    have lt := Heap.lt_size q
    show (sortedHeap (s1.heap.push (seqObj "list" out.toArray 0)) s1.heap.objs.size out fin.toArray).get? b = some u
    rw [sortedHeap_old (Nat.ne_of_lt lt) (by rw [size_push']; exact Nat.lt_succ_of_lt lt)]
    exact Heap.get?_push_of_some _ q
end
end VE
namespace VE
open PySem PySem.Spec PyProof.Rows L2 PySem.W
mutual
def unk : NK → D
  | .none => .non
  | .num i => .int i
  | .text x => .str x
  | .tup ks => .tup (unks ks)
def unks : List NK → List D
  | [] => []
  | k :: ks => unk k :: unks ks
end
mutual
theorem unk_of : ∀ (d : D) (k : NK), nkD d = some k → d = unk k
  | .non, k, h => by simp only [nkD] at h; cases h; rfl
  | .int _, k, h => by simp only [nkD] at h; cases h; rfl
  | .str _, k, h => by simp only [nkD] at h; cases h; rfl
  | .tup ds, k, h => by
    simp only [nkD] at h
    obtain ⟨ks, e, rfl⟩ := Option.map_eq_some_iff.mp h
    simp only [unk, ← unks_of ds ks e]
  | .bl _, k, h => by simp only [nkD] at h; cases h
  | .lst _, k, h => by simp only [nkD] at h; cases h
  | .scr _, k, h => by simp only [nkD] at h; cases h
  | .dct _ _, k, h => by simp only [nkD] at h; cases h
  | .box _, k, h => by simp only [nkD] at h; cases h
  | .ins _ _, k, h => by simp only [nkD] at h; cases h
theorem unks_of : ∀ (ds : List D) (ks : List NK), nkDs ds = some ks → ds = unks ks
  | [], ks, h => by simp only [nkDs] at h; cases h; rfl
  | d :: ds, ks, h => by
    simp only [nkDs] at h
    obtain ⟨k, e1, h⟩ := Option.bind_eq_some_iff.mp h
    obtain ⟨r, e2, rfl⟩ := Option.map_eq_some_iff.mp h
    rw [unks, ← unk_of d k e1, ← unks_of ds r e2]
end
theorem unks_map : ∀ ks : List NK, unks ks = ks.map unk
  | [] => rfl
  | k :: ks => by rw [unks, List.map_cons, unks_map ks]
mutual
theorem toPy_nk : ∀ (d : D) (k : NK), nkD d = some k → toPy d = some k.data
  | .non, k, h => by simp only [nkD] at h; cases h; rfl
  | .int _, k, h => by simp only [nkD] at h; cases h; rfl
  | .str _, k, h => by simp only [nkD] at h; cases h; rfl
  | .tup ds, k, h => by
    simp only [nkD] at h
    obtain ⟨ks, e, rfl⟩ := Option.map_eq_some_iff.mp h
    simp only [toPy, toPys_nk ds ks e, Option.map_some, NestedKey.data]
  | .bl _, k, h => by simp only [nkD] at h; cases h
  | .lst _, k, h => by simp only [nkD] at h; cases h
  | .scr _, k, h => by simp only [nkD] at h; cases h
  | .dct _ _, k, h => by simp only [nkD] at h; cases h
  | .box _, k, h => by simp only [nkD] at h; cases h
  | .ins _ _, k, h => by simp only [nkD] at h; cases h
theorem toPys_nk : ∀ (ds : List D) (ks : List NK), nkDs ds = some ks → toPys ds = some (NestedKey.datas ks)
  | [], ks, h => by simp only [nkDs] at h; cases h; rfl
  | d :: ds, ks, h => by
    simp only [nkDs] at h
    obtain ⟨k, e1, h⟩ := Option.bind_eq_some_iff.mp h
    obtain ⟨r, e2, rfl⟩ := Option.map_eq_some_iff.mp h
    simp only [toPys, toPy_nk d k e1, toPys_nk ds r e2, Option.bind_some, Option.map_some, NestedKey.datas]
end
mutual
theorem nk_reads {h : Heap} : ∀ (k : NK) (v : Value) (as : List Addr), Reads h v k.data as → NestedIs h k v
  | .none, _, _, r => by simp only [NestedKey.data] at r; cases r; exact .none
  | .num _, _, _, r => by simp only [NestedKey.data] at r; cases r; exact .int _ _
  | .text _, _, _, r => by simp only [NestedKey.data] at r; cases r; exact .text _ _
  | .tup ks, _, _, r => by
    simp only [NestedKey.data] at r
    cases r with
    | tuple h1 h2 h3 h4 => exact .tup h1 h2 h3 (nks_reads ks _ _ h4)
theorem nks_reads {h : Heap} : ∀ (ks : List NK) (vs : List Value) (as : List Addr), ReadsAll h vs (NestedKey.datas ks) as → NestedAll h ks vs
  | [], _, _, r => by simp only [NestedKey.datas] at r; cases r; exact .nil
  | k :: ks, _, _, r => by
    simp only [NestedKey.datas] at r
    cases r with
    | cons r1 r2 => exact .cons (nk_reads k _ _ r1) (nks_reads ks _ _ r2)
end
mutual
theorem toks_one : ∀ (x y : PyData) (l m : List (Int ⊕ List Nat)), alike x y = true → keyToks x ++ l = keyToks y ++ m → x = y ∧ l = m
  | .none, y, l, m, h, e => by
    cases y <;> simp only [alike] at h <;> try exact absurd h Bool.false_ne_true
    exact ⟨rfl, e⟩
  | .bool b, y, l, m, h, e => by
    cases y <;> simp only [alike] at h <;> try exact absurd h Bool.false_ne_true
    rename_i c
    simp only [keyToks, List.cons_append, List.nil_append, List.cons.injEq, Sum.inl.injEq] at e
    cases b <;> cases c <;> simp_all
  | .int b, y, l, m, h, e => by
    cases y <;> simp only [alike] at h <;> try exact absurd h Bool.false_ne_true
    simp only [keyToks, List.cons_append, List.nil_append, List.cons.injEq, Sum.inl.injEq] at e
    exact ⟨by rw [e.1], e.2⟩
  | .str b, y, l, m, h, e => by
    cases y <;> simp only [alike] at h <;> try exact absurd h Bool.false_ne_true
    simp only [keyToks, List.cons_append, List.nil_append, List.cons.injEq, Sum.inr.injEq] at e
    exact ⟨by rw [str_of_cps e.1], e.2⟩
  | .list xs, y, l, m, h, e => by
    cases y <;> simp only [alike] at h <;> try exact absurd h Bool.false_ne_true
    simp only [keyToks] at e
    obtain ⟨q1, q2⟩ := toks_all xs _ l m h e
    exact ⟨by rw [q1], q2⟩
  | .tuple xs, y, l, m, h, e => by
    cases y <;> simp only [alike] at h <;> try exact absurd h Bool.false_ne_true
    simp only [keyToks] at e
    obtain ⟨q1, q2⟩ := toks_all xs _ l m h e
    exact ⟨by rw [q1], q2⟩
  | .dict _, y, l, m, h, e => by
    cases y <;> simp only [alike] at h <;> exact absurd h Bool.false_ne_true
theorem toks_all : ∀ (xs ys : List PyData) (l m : List (Int ⊕ List Nat)), alikeAll xs ys = true → keyToksAll xs ++ l = keyToksAll ys ++ m → xs = ys ∧ l = m
  | [], [], l, m, _, e => by simpa only [keyToksAll, List.cons_append, List.nil_append, List.cons.injEq, true_and] using e
  | [], _ :: _, l, m, _, e => by simp [keyToksAll] at e
  | _ :: _, [], l, m, _, e => by simp [keyToksAll] at e
  | x :: xs, y :: ys, l, m, h, e => by
    obtain ⟨h1, h2⟩ := alike_all_cons h
    simp only [toks_all_cons, List.cons_append, List.append_assoc, List.cons.injEq, true_and] at e
    obtain ⟨q1, q2⟩ := toks_one x y _ _ h1 e
    obtain ⟨q3, q4⟩ := toks_all xs ys _ _ h2 q2
    exact ⟨by rw [q1, q3], q4⟩
end
theorem sort_fix {β : Type} {enc : β → PyData} {l m : List β} (p : l.Perm m) (hal : AllAlike (m.map enc)) (inj : ∀ a ∈ m, ∀ b ∈ m, enc a = enc b → a = b) (nd : m.Nodup) : l.mergeSort (dataLe false enc) = m.mergeSort (dataLe false enc) := by
  have T := sortLe_total (listOrd itemOrd) false fun b => keyToks (enc b)
  refine sort_unique (le := dataLe false enc) T (sort_pairwise T l) fun c => (sort_stable T l c).trans ?_
  have same : ∀ a ∈ m, ∀ b ∈ m, sameRank (dataLe false enc) c a = true → sameRank (dataLe false enc) c b = true → a = b := by
    intro a ha b hb h1 h2
    have ke : ∀ x : β, sameRank (dataLe false enc) c x = true → keyToks (enc c) = keyToks (enc x) := fun x hx => by
      have hx' : ((!lexLt itemOrd (keyToks (enc x)) (keyToks (enc c))) && (!lexLt itemOrd (keyToks (enc c)) (keyToks (enc x)))) = true := hx
      rw [Bool.and_eq_true, Bool.not_eq_true', Bool.not_eq_true'] at hx'
      exact (listOrd itemOrd).total _ _ hx'.2 hx'.1
    have e : keyToks (enc a) ++ [] = keyToks (enc b) ++ [] := by rw [List.append_nil, List.append_nil]; exact (ke a h1).symm.trans (ke b h2)
    exact inj a ha b hb (toks_one _ _ _ _ (hal _ (List.mem_map_of_mem ha) _ (List.mem_map_of_mem hb)) e).1
  have pf := p.filter (sameRank (dataLe false enc) c)
  have few : ∀ f : List β, f.Nodup → (∀ a ∈ f, ∀ b ∈ f, a = b) → f.length ≤ 1 := by
    intro f nf hf
    match f, nf, hf with
    | [], _, _ => exact Nat.zero_le _
    | [_], _, _ => exact Nat.le_refl _
    | a :: b :: r, nf, hf => exact absurd (hf a List.mem_cons_self b (List.mem_cons_of_mem _ List.mem_cons_self)) (by intro z; subst z; simp at nf)
  have fm := few (m.filter (sameRank (dataLe false enc) c)) (List.Pairwise.filter _ nd) fun a ha b hb => by
    obtain ⟨a1, a2⟩ := List.mem_filter.mp ha
    obtain ⟨b1, b2⟩ := List.mem_filter.mp hb
    exact same a a1 b b1 a2 b2
  match q : m.filter (sameRank (dataLe false enc) c), q2 : l.filter (sameRank (dataLe false enc) c) with
  | [], f => rw [q, q2] at pf; rw [List.perm_nil.mp pf]
  | [x], f => rw [q, q2] at pf; exact List.perm_singleton.mp pf
  | x :: y :: r, _ => rw [q] at fm; simp at fm
def ddup {α : Type} [DecidableEq α] : List α → List α
  | [] => []
  | x :: l => if x ∈ l then ddup l else x :: ddup l
section
variable {α : Type} [DecidableEq α]
theorem mem_ddup {x : α} : ∀ {l : List α}, x ∈ ddup l ↔ x ∈ l
  | [] => by simp [ddup]
  | y :: l => by
    unfold ddup
    split
    · rename_i h
      rw [mem_ddup (l := l), List.mem_cons]
      exact ⟨.inr, fun z => z.elim (fun e => e ▸ h) id⟩
    · rw [List.mem_cons, List.mem_cons, mem_ddup (l := l)]
theorem nodup_ddup : ∀ l : List α, (ddup l).Nodup
  | [] => List.nodup_nil
  | y :: l => by
    unfold ddup
    split
    · exact nodup_ddup l
    · rename_i h
      exact List.nodup_cons.mpr ⟨fun z => h (mem_ddup.mp z), nodup_ddup l⟩
theorem perm_same {l m : List α} (h1 : l.Nodup) (h2 : m.Nodup) (h : ∀ x, x ∈ l ↔ x ∈ m) : l.Perm m := (List.perm_ext_iff_of_nodup h1 h2).mpr h
theorem Has.perm {ks L : List (Value × α)} (g : Has ks ks.length L) (nd : (L.map (·.2)).Nodup) : (L.map (·.2)).Perm (ddup (ks.map (·.2))) := by
  refine perm_same nd (nodup_ddup _) fun x => ?_
  rw [mem_ddup]
  constructor
  · intro h
    obtain ⟨p, hp, rfl⟩ := List.mem_map.mp h
    have := g.sub p hp
    rw [List.take_length] at this
    exact List.mem_map_of_mem this
  · intro h
    obtain ⟨p, hp, rfl⟩ := List.mem_map.mp h
    exact g.all p (by rw [List.take_length]; exact hp)
end
end VE
namespace VE
open PySem PySem.Spec PyProof.Rows L2 PySem.W
def tupK : NK → Bool
  | .tup _ => true
  | _ => false
def kindOk (ks : List NK) : Bool := (ks.all fun k => (nkKey k).isSome) || ks.all fun k => tupK k && decide (k.depth ≤ 8)
def oneTup : PyData → Bool
  | .tuple (_ :: _) => true
  | _ => false
def noTup : PyData → Bool
  | .tuple _ => false
  | .none => false
  | _ => true
def sortOk (ps : List PyData) : Bool := (ps.all fun p => ps.all fun q => alike p q) && (ps.all oneTup || ps.all noTup) && ps.all fun p => decide (p.depth ≤ 20)
theorem sortOk_of {ps : List PyData} (h : sortOk ps = true) : AllAlike ps ∧ Sortable ps ∧ ∀ p ∈ ps, p.depth ≤ 20 := by
  unfold sortOk at h
  rw [Bool.and_eq_true, Bool.and_eq_true, Bool.or_eq_true] at h
  obtain ⟨⟨h1, h2⟩, h3⟩ := h
  refine ⟨fun d hd d' hd' => List.all_eq_true.mp (List.all_eq_true.mp h1 d hd) d' hd', ?_, fun p hp => of_decide_eq_true (List.all_eq_true.mp h3 p hp)⟩
  rcases h2 with h2 | h2
  · refine .inl fun d hd => ?_
    have := List.all_eq_true.mp h2 d hd
    unfold oneTup at this
    split at this
    · exact ⟨_, _, rfl⟩
    · cases this
  · refine .inr fun d hd => ?_
    have := List.all_eq_true.mp h2 d hd
    refine ⟨fun e => ?_, fun xs e => ?_⟩ <;> (subst e; exact absurd this (by simp [noTup]))
theorem sortable_sub {ps qs : List PyData} (h : AllAlike ps ∧ Sortable ps ∧ ∀ p ∈ ps, p.depth ≤ 20) (s : ∀ q ∈ qs, q ∈ ps) : AllAlike qs ∧ Sortable qs ∧ ∀ p ∈ qs, p.depth ≤ 20 := by
  refine ⟨fun d hd d' hd' => h.1 d (s d hd) d' (s d' hd'), ?_, fun p hp => h.2.2 p (s p hp)⟩
  rcases h.2.1 with q | q
  · exact .inl fun d hd => q d (s d hd)
  · exact .inr fun d hd => q d (s d hd)
def sortK (ks : List NK) : List NK := ks.mergeSort (dataLe false NestedKey.data)
section
variable {X : Cx} {pins : List (Addr × Obj)} {σ : L2.St} {H : Hp} {s : Shared}
theorem vals_zip {K : PySem.W.Frag} : ∀ {xs : List V} {us : List Value} {zs : List (V × NK)}, Vals xs us → xs = zs.map (·.1) → (∀ p ∈ us.zip (zs.map (·.2)), ∃ x, (x, p.2) ∈ zs ∧ RelV x p.1) ∧ us = (us.zip (zs.map (·.2))).map (·.1) ∧ (us.zip (zs.map (·.2))).map (·.2) = zs.map (·.2)
  | _, _, [], .nil, _ => ⟨fun p hp => by simp at hp, rfl, rfl⟩
  | _, _, z :: zs, .nil, e => by simp at e
  | _, _, [], .cons _ _, e => by simp at e
  | _, _, z :: zs, .cons (b := u) r t, e => by
    rw [List.map_cons, List.cons.injEq] at e
    obtain ⟨e1, e2⟩ := e
    obtain ⟨a1, a2, a3⟩ := vals_zip (K := K) t e2
    refine ⟨fun p hp => ?_, ?_, ?_⟩
    · rw [List.map_cons, List.zip_cons_cons] at hp
      rcases List.mem_cons.mp hp with q | q
      · subst q; exact ⟨z.1, List.mem_cons_self, by rw [← e1]; exact r⟩
      · obtain ⟨x, h1, h2⟩ := a1 p q
        exact ⟨x, List.mem_cons_of_mem _ h1, h2⟩
    · rw [List.map_cons, List.zip_cons_cons, List.map_cons, ← a2]
    · rw [List.map_cons, List.zip_cons_cons, List.map_cons, a3]
theorem set_then (I : Inv X pins σ H s) (hc : X.calm = true) (hu : X.A.units + 64 < cLine) {l : Addr} {zs : List (V × NK)} (hl : SqL X.K H l (zs.map (·.1))) (hd : ∀ z ∈ zs, Dp X.K H z.1 z.2.data) (hk : kindOk (zs.map (·.2)) = true) (h64 : zs.length < 64) {Q : Value → Shared → Prop} {E : Value → Shared → Prop}
    (h : ∀ {room : Around → Prop} {cap : Nat} (κs : Keeps X.prog X.w NK room cap) (h' : Heap) (tk : Nat) (L : List (Value × NK)), κs.St h' s.heap.objs.size L → (∀ p ∈ L, ∃ x, (x, p.2) ∈ zs ∧ RelV x p.1) → (L.map (·.2)).Perm (ddup (zs.map (·.2))) → (∀ b o, s.heap.get? b = some o → h'.get? b = some o) → Q (.ref s.heap.objs.size) { s with heap := h', toks := tk }) :
    wpAny (model X.prog X.w) X.A (call (.type "set") [.ref l]) Q E s := by
  obtain ⟨its, rv, pl, _⟩ := I.list hl
  obtain ⟨a1, a2, a3⟩ := vals_zip (K := X.K) rv rfl
  have rd : ∀ p ∈ its.zip (zs.map (·.2)), ∃ as, Reads s.heap p.1 p.2.data as := fun p hp => by
    obtain ⟨x, q1, q2⟩ := a1 p hp
    exact Dp.reads I _ _ _ (hd _ q1) q2
  have hh := I.ok.hd hc
  have len : (its.zip (zs.map (·.2))).length = zs.length := by
    have := congrArg List.length a3
    rwa [List.length_map, List.length_map] at this
  have fin : ∀ {room : Around → Prop} {cap : Nat} (κs : Keeps X.prog X.w NK room cap), room X.A.in1.in1.in1 → 64 ≤ cap → (∀ p ∈ its.zip (zs.map (·.2)), κs.isK s.heap p.2 p.1) → wpAny (model X.prog X.w) X.A (call (.type "set") [.ref l]) Q E s := by
    intro room cap κs hr hcap is
    refine call_setK κs (its.zip (zs.map (·.2))) hh pl.isList (by simpa using a2) is (by rw [len]; omega) hr fun h' tk L hL g keep => ?_
    refine h κs h' tk L hL (fun p hp => ?_) ?_ keep
    · have := g.sub p hp
      rw [List.take_length] at this
      exact a1 p this
    · have := g.perm (κs.nd hL)
      rwa [a3] at this
  unfold kindOk at hk
  rw [Bool.or_eq_true] at hk
  have kin : ∀ p ∈ its.zip (zs.map (·.2)), p.2 ∈ zs.map (·.2) := fun p hp => by rw [← a3]; exact List.mem_map_of_mem hp
  rcases hk with hk | hk
  · refine fin (keepsF X.prog X.w) trivial (by decide) fun p hp => ?_
    obtain ⟨as, r⟩ := rd p hp
    have n := nk_reads _ _ _ r
    have ks := List.all_eq_true.mp hk _ (kin p hp)
    obtain ⟨u, k⟩ := p
    show nkIs X.prog X.w k u = true ∧ u.scannable = true
    cases k with
    | none => cases ks
    | tup _ => cases ks
    | num i =>
      simp only [NestedKey.data] at r
      cases r
      exact ⟨kV_is (k := .inl i) ⟨_, rfl⟩, rfl⟩
    | text i =>
      simp only [NestedKey.data] at r
      cases r
      exact ⟨kV_is (k := .inr i) ⟨_, rfl⟩, rfl⟩
  · refine fin (keepsT X.prog X.w) (show X.A.units + 1 + 1 + 1 + 8 < cLine by omega) (Nat.le_refl _) fun p hp => ?_
    obtain ⟨as, r⟩ := rd p hp
    have n := nk_reads _ _ _ r
    have ks := List.all_eq_true.mp hk _ (kin p hp)
    rw [Bool.and_eq_true, decide_eq_true_eq] at ks
    obtain ⟨u, k⟩ := p
    refine ⟨n, ks.2, ?_⟩
    cases k with
    | tup _ => cases n; exact ⟨_, rfl⟩
    | _ => exact absurd ks.1 (by simp [tupK])
abbrev Picks (zs : List (V × NK)) : List V → List NK → Prop := Paired fun x k => (x, k) ∈ zs
theorem picks_of {zs : List (V × NK)} : ∀ {M : List (Value × NK)}, (∀ p ∈ M, ∃ x, (x, p.2) ∈ zs ∧ RelV x p.1) → ∃ xs, Picks zs xs (M.map (·.2)) ∧ Vals xs (M.map (·.1))
  | [], _ => ⟨[], .nil, .nil⟩
  | p :: M, h => by
    obtain ⟨x, h1, h2⟩ := h p List.mem_cons_self
    obtain ⟨xs, h3, h4⟩ := picks_of fun q hq => h q (List.mem_cons_of_mem _ hq)
    exact ⟨x :: xs, .cons h1 h3, .cons h2 h4⟩
def tSetOf (K : PySem.W.Frag) (F : List (V × NK) → Hp → VK → Prop) (ta : TE) : TE := fun σ H Q => ta σ H fun x H1 => ∃ (l : Addr) (zs : List (V × NK)), x = V.ref l ∧ SqL K H1 l (zs.map (·.1)) ∧ (∀ z ∈ zs, Dp K H1 z.1 z.2.data) ∧ kindOk (zs.map (·.2)) = true ∧ zs.length < 64 ∧ F zs H1 Q
def lenF : List (V × NK) → Hp → VK → Prop := fun zs H Q => Q (.int ((ddup (zs.map (·.2))).length : Nat)) H
def sortF : List (V × NK) → Hp → VK → Prop := fun zs H Q => sortOk ((zs.map (·.2)).map NestedKey.data) = true ∧ ∀ (p : Addr) (xs : List V), H p = none → Picks zs xs (sortK (ddup (zs.map (·.2)))) → Q (.ref p) (upd H p (.lst xs))
theorem data_inj {a b : NK} (e : a.data = b.data) : a = b := inj a b e
where
  inj : ∀ a b : NK, a.data = b.data → a = b := fun a => NestedKey.rec (motive_1 := fun a => ∀ b : NK, a.data = b.data → a = b) (motive_2 := fun as => ∀ bs : List NK, NestedKey.datas as = NestedKey.datas bs → as = bs)
    (fun b e => by cases b <;> simp [NestedKey.data] at e <;> rfl) (fun i b e => by cases b <;> simp [NestedKey.data] at e; rw [e]) (fun i b e => by cases b <;> simp [NestedKey.data] at e; rw [e])
    (fun ks ih b e => by cases b <;> simp [NestedKey.data] at e; rw [ih _ e]) (fun bs e => by cases bs <;> simp [NestedKey.datas] at e; rfl) (fun k ks h1 h2 bs e => by cases bs <;> simp [NestedKey.datas] at e; rw [h1 _ e.1, h2 _ e.2]) a
variable {a : Expr} {ta : TE} {p p2 q pos : Pos}
theorem pe_lenSetG (hc : X.calm = true) (hu : X.A.units + 64 < cLine) (hg : Gl X "len") (hm : X.mg "len" = none) (hg2 : Gl X "set") (hm2 : X.mg "set" = none) (ha : PE X a ta) (na : starEach [a] X.env = (false, eval a X.env) :: starEach [] X.env := by rfl) :
    PE X (.Call (.Name "len" p) [.Call (.Name "set" p2) [a] [] q] [] pos) (tSetOf X.K lenF ta) := ⟨fun pins s σ H Q I h => by
  refine Call_ (ld_blt I hg hm boot_len (PyProof.Rows.callWith_builtin1 (PyProof.Rows.args_cons (Call_ (ld_blt I hg2 hm2 boot_set (PyProof.Rows.callWith_type1 (PyProof.Rows.args_cons (thn (ha.run pins s σ H _ I h) fun v s1 ⟨x, H1, I1, r1, l, zs, e, h1, h2, h3, h4, q1⟩ => PyProof.Rows.args_nil ?_) na) na rfl))) rfl) rfl rfl))
  subst e
  cases r1
  refine set_then I1 hc hu h1 h2 h3 h4 fun κs h' tk L hL _ pm keep => PyProof.Rows.args_nil (len_setK κs hL ?_)
  have e : L.length = (ddup (zs.map (·.2))).length := by have := pm.length_eq; rwa [List.length_map] at this
  exact ⟨.int _, H1, (I1.kept (t' := tk) keep).tok _, ⟨_, by rw [e]⟩, q1⟩⟩
theorem pe_sortSetG (hc : X.calm = true) (hu : X.A.units + 64 < cLine) (hg : Gl X "sorted") (hm : X.mg "sorted" = none) (hg2 : Gl X "set") (hm2 : X.mg "set" = none) (ha : PE X a ta) (na : starEach [a] X.env = (false, eval a X.env) :: starEach [] X.env := by rfl) :
    PE X (.Call (.Name "sorted" p) [.Call (.Name "set" p2) [a] [] q] [] pos) (tSetOf X.K sortF ta) := ⟨fun pins s σ H Q I h => by
  refine Call_ (ld_blt I hg hm (show bootBuiltins "sorted" = some (.builtin "sorted") from PyProof.Rows.Boot.«sorted») (PyProof.Rows.callWith_builtin1 (PyProof.Rows.args_cons (Call_ (ld_blt I hg2 hm2 boot_set (PyProof.Rows.callWith_type1 (PyProof.Rows.args_cons (thn (ha.run pins s σ H _ I h) fun v s1 ⟨x, H1, I1, r1, l, zs, e, h1, h2, h3, h4, hs, q1⟩ => PyProof.Rows.args_nil ?_) na) na rfl))) rfl) rfl rfl))
  subst e
  cases r1
  refine set_then I1 hc hu h1 h2 h3 h4 fun κs h' tk L hL vz pm keep => PyProof.Rows.args_nil ?_
  have sk := sortOk_of hs
  have mk : ∀ p ∈ L, p.2 ∈ zs.map (·.2) := fun p hp => mem_ddup.mp (pm.mem_iff.mp (List.mem_map_of_mem hp))
  have sub := sortable_sub (qs := L.map fun p => p.2.data) sk fun d hd => by
    obtain ⟨p, hp, rfl⟩ := List.mem_map.mp hd
    exact List.mem_map_of_mem (mk p hp)
  refine sorted_setK (s := { s1 with heap := h', toks := tk }) κs hL (I1.ok.hd hc) (fun p => p.2.data) (fun p hp => ?_) sub.1 sub.2.1 (fun p hp => ?_) fun L' s' pp c pL k g o hz hg => ?_
  · obtain ⟨x, z1, z2⟩ := vz p hp
    obtain ⟨as, r⟩ := Dp.reads I1 _ _ _ (h2 _ z1) z2
    exact ⟨as, PyProof.Rows.Reads.keeps keep r⟩
  · have := sub.2.2 p.2.data (List.mem_map_of_mem (f := fun p : Value × NK => p.2.data) hp); omega
  · have vz' : ∀ p ∈ L'.mergeSort (dataLe false fun p => p.2.data), ∃ x, (x, p.2) ∈ zs ∧ RelV x p.1 := fun p hp => vz p (pL.mem_iff.mp (List.mem_mergeSort.mp hp))
    obtain ⟨xs, pk, vs⟩ := picks_of vz'
    have e1 : (L'.mergeSort (dataLe false fun p => p.2.data)).map (·.2) = sortK (ddup (zs.map (·.2))) := by
      rw [sort_maps (r := dataLe false fun p : Value × NK => p.2.data) (s := dataLe false NestedKey.data) (fun p : Value × NK => p.2) fun a _ b _ => rfl]
      refine sort_fix ((pL.map (·.2)).trans pm) (fun d hd d' hd' => ?_) (fun a _ b _ e => data_inj e) (nodup_ddup _)
      obtain ⟨k1, hk1, rfl⟩ := List.mem_map.mp hd
      obtain ⟨k2, hk2, rfl⟩ := List.mem_map.mp hd'
      exact sk.1 _ (List.mem_map_of_mem (mem_ddup.mp hk1)) _ (List.mem_map_of_mem (mem_ddup.mp hk2))
    rw [e1] at pk
    have kk : ∀ b o, s1.heap.get? b = some o → s'.heap.get? b = some o := fun b o e => k b o (keep b o e)
    obtain ⟨o9, es, ep, t9, b1, _, _, _, _, _, b7, b8⟩ := κs.there hL
    have hsz : s1.heap.objs.size ≤ pp := Nat.le_trans (Nat.le_of_lt (Heap.lt_size b1)) hz
    have hn : H1 pp = none := I1.hok.fresh hsz
    have lx : xs.length ≤ sizeLine := by
      have a1 := vs.length
      rw [List.length_map, List.length_mergeSort, pL.length_eq] at a1
      have a3 := b8.length_eq
      rw [List.length_map, List.length_map] at a3
      have a4 : es.toList.length = es.size := Array.length_toList
      have a5 : scanBound ≤ sizeLine := by rw [sizeLine_eq]; decide
      omega
    have J : L2.Inv X pins σ (upd H1 pp (.lst xs)) { s1 with heap := s'.heap, gens := s'.gens, drawn := s'.drawn, toks := s'.toks } := I1.call (ch := []) (Un.laid kk hsz hn) (I1.hok.laid kk hsz ⟨lx, _, c, vs, hg⟩) (by rw [g]; exact I1.bare) (fun _ z => nomatch z)
    have es' : s' = { s1 with heap := s'.heap, gens := s'.gens, drawn := s'.drawn, toks := s'.toks } := by
      cases s'; cases s1; cases o; rfl
    rw [es']
    exact ⟨.ref pp, _, J, rfl, q1 pp xs hn pk⟩⟩
end
end VE
namespace VE
open PySem PySem.Spec PyProof.Rows L2 PySem.W
def xSet (g : List D → Option Val) (p : M Val) : M Val := p.bind fun a env => (deref env a).bind fun d => match d with
  | .lst ds => (g ds).map fun v => .ok v env
  | _ => none
def SetT (C : Wd) (F : List (V × NK) → Hp → VK → Prop) (g : List D → Option Val) : Prop := ∀ (Hs H : Hp) (zs : List (V × NK)) (ds : List D) (val : Val) (Q : VK), Ex Hs H → nkDs ds = some (zs.map (·.2)) → RpL C Hs ds (zs.map (·.1)) → (∀ z ∈ zs, Rp C Hs (unk z.2) z.1) → g ds = some val →
  (∀ v H' Hs', Grow Hs H Hs' H' → RVg C H Hs' H' val v → Q v H') → F zs H Q
def setOk (ds : List D) : Option (List NK) := (nkDs ds).bind fun ks => if kindOk ks = true ∧ ks.length < 64 then some ks else none
theorem setOk_of {ds : List D} {ks : List NK} (h : setOk ds = some ks) : nkDs ds = some ks ∧ kindOk ks = true ∧ ks.length < 64 := by
  unfold setOk at h
  obtain ⟨k, e, h⟩ := Option.bind_eq_some_iff.mp h
  split at h
  · rename_i q; cases h; exact ⟨e, q⟩
  · cases h
def gLenSet (ds : List D) : Option Val := (setOk ds).map fun ks => .fz (.int ((ddup ks).length : Nat))
def gSortSet (ds : List D) : Option Val := (setOk ds).bind fun ks => if sortOk (ks.map NestedKey.data) = true then some (.fr (.lst ((sortK (ddup ks)).map unk))) else none
theorem zs_of {C : Wd} {Hs : Hp} : ∀ {ds : List D} {ks : List NK} {xs : List V}, nkDs ds = some ks → RpL C Hs ds xs → ∃ zs : List (V × NK), xs = zs.map (·.1) ∧ ks = zs.map (·.2) ∧ ∀ z ∈ zs, Rp C Hs (unk z.2) z.1
  | [], ks, xs, h, r => by
    simp only [nkDs] at h
    simp only [RpL] at r
    cases h; subst r
    exact ⟨[], rfl, rfl, fun z hz => by cases hz⟩
  | d :: ds, ks, xs, h, r => by
    simp only [nkDs] at h
    obtain ⟨k, e1, h⟩ := Option.bind_eq_some_iff.mp h
    obtain ⟨r0, e2, rfl⟩ := Option.map_eq_some_iff.mp h
    simp only [RpL] at r
    obtain ⟨v, t, rfl, h1, h2⟩ := r
    obtain ⟨zs, q1, q2, q3⟩ := zs_of e2 h2
    refine ⟨(v, k) :: zs, by rw [List.map_cons, q1], by rw [List.map_cons, q2], fun z hz => ?_⟩
    rcases List.mem_cons.mp hz with e | hz
    · subst e; rw [← unk_of d k e1]; exact h1
    · exact q3 z hz
theorem nkD_unk (k : NK) : nkD (unk k) = some k := NestedKey.rec (motive_1 := fun k => nkD (unk k) = some k) (motive_2 := fun ks => nkDs (unks ks) = some ks) rfl (fun _ => rfl) (fun _ => rfl) (fun ks ih => by simp only [unk, nkD, ih, Option.map_some]) rfl (fun k ks h1 h2 => by simp only [unks, nkDs, h1, h2, Option.bind_some, Option.map_some]) k
theorem picks_rp {C : Wd} {Hs : Hp} {zs : List (V × NK)} (h : ∀ z ∈ zs, Rp C Hs (unk z.2) z.1) : ∀ {xs : List V} {ks : List NK}, Picks zs xs ks → RpL C Hs (ks.map unk) xs
  | _, _, .nil => RpL.nil
  | _, _, .cons q t => RpL.cons (h _ q) (picks_rp h t)
section
variable {X : Cx} {W : WX} {e a : Expr} {p : M Val} {pos p0 p2 q2 : Pos}
theorem x_setOf {F : List (V × NK) → Hp → VK → Prop} {g : List D → Option Val} (h : PE X e (tSetOf X.K F (tX (wdOf X) W p))) (hT : SetT (wdOf X) F g) (hk : ∀ ds v, g ds = some v → ∃ ks, setOk ds = some ks) : PE X e (tX (wdOf X) W (xSet g p)) := pe_weak h fun σ H Q ⟨env, Hs, r1, rp, e, fin⟩ => by
  refine Tm.bindAt rp e fin fun va env1 v H1 Hs1 hp st rv e1 => ?_
  cases hd : deref env1 va with
  | none => rw [hd] at e1; cases e1
  | some d =>
    rw [hd, Option.bind_some] at e1
    split at e1
    · rename_i ds
      cases gv : g ds with
      | none => rw [gv] at e1; cases e1
      | some val =>
        rw [gv] at e1
        cases e1
        obtain ⟨l, xs, rfl, h1, h2⟩ := (st.rep.deref (rv.vv hd) hd).lst st.rep.ex
        obtain ⟨ks, hks⟩ := hk ds val gv
        obtain ⟨k1, k2, k3⟩ := setOk_of hks
        obtain ⟨zs, rfl, rfl, q3⟩ := zs_of k1 h2
        refine ⟨l, zs, rfl, SqL.of h1, fun z hz => Dp.ex st.rep.ex _ _ (dp_of (unk z.2) z.1 _ (q3 z hz) (toPy_nk _ _ (nkD_unk _))), k2, by rwa [List.length_map] at k3, ?_⟩
        exact hT Hs1 H1 zs ds val Q st.rep.ex k1 h2 q3 gv fun v' H' Hs' gr rg => fin.op st gr rg
    · cases e1
theorem setT_len {C : Wd} : SetT C lenF gLenSet := fun Hs H zs ds val Q ex k1 r q g k => by
  unfold gLenSet at g
  obtain ⟨ks, e, rfl⟩ := Option.map_eq_some_iff.mp g
  have := (setOk_of e).1
  rw [k1] at this; cases this
  exact atom_end ex k rpI
theorem setT_sort {C : Wd} : SetT C sortF gSortSet := fun Hs H zs ds val Q ex k1 r q g k => by
  unfold gSortSet at g
  obtain ⟨ks, e, g⟩ := Option.bind_eq_some_iff.mp g
  have := (setOk_of e).1
  rw [k1] at this; cases this
  split at g
  · rename_i hs
    cases g
    exact ⟨hs, fun l xs hl pk => k _ _ Hs (Grow.new ex hl) ⟨l, rfl, hl, xBack ex hl, xs, upd_same, picks_rp q pk⟩⟩
  · cases g
theorem x_lenSet (hc : X.calm = true) (hu : X.A.units + 64 < cLine) (hg : Gl X "len") (hm : X.mg "len" = none) (hg2 : Gl X "set") (hm2 : X.mg "set" = none) (ha : PE X a (tX (wdOf X) W p)) (na : starEach [a] X.env = (false, eval a X.env) :: starEach [] X.env := by rfl) :
    PE X (.Call (.Name "len" p0) [.Call (.Name "set" p2) [a] [] q2] [] pos) (tX (wdOf X) W (xSet gLenSet p)) :=
  x_setOf (pe_lenSetG hc hu hg hm hg2 hm2 ha na) setT_len fun ds v h => by
    obtain ⟨ks, e, _⟩ := Option.map_eq_some_iff.mp h
    exact ⟨ks, e⟩
theorem x_sortSet (hc : X.calm = true) (hu : X.A.units + 64 < cLine) (hg : Gl X "sorted") (hm : X.mg "sorted" = none) (hg2 : Gl X "set") (hm2 : X.mg "set" = none) (ha : PE X a (tX (wdOf X) W p)) (na : starEach [a] X.env = (false, eval a X.env) :: starEach [] X.env := by rfl) :
    PE X (.Call (.Name "sorted" p0) [.Call (.Name "set" p2) [a] [] q2] [] pos) (tX (wdOf X) W (xSet gSortSet p)) :=
  x_setOf (pe_sortSetG hc hu hg hm hg2 hm2 ha na) setT_sort fun ds v h => by
    obtain ⟨ks, e, _⟩ := Option.bind_eq_some_iff.mp h
    exact ⟨ks, e⟩
end
def pyD (d : D) : PyData := (toPy d).getD .none
def rSortG (K : PySem.W.Frag) : List V → Hp → VK → Prop := fun vs H Q => ∃ (a : Addr) (zs : List (V × D)), vs = [V.ref a] ∧ SqL K H a (zs.map (·.1)) ∧ (∀ z ∈ zs, Dp K H z.1 (pyD z.2)) ∧ sortOk (zs.map fun z => pyD z.2) = true ∧
  ∀ p, H p = none → Q (.ref p) (upd H p (.lst ((zs.mergeSort (dataLe false fun z => pyD z.2)).map (·.1))))
theorem callU_sorted {X : Cx} (hu : X.A.units + 64 < cLine) : CallR X (.builtin "sorted") (rSortG X.K) := by
  intro pins s σ H vs us Q I r h
  obtain ⟨a, zs, rfl, hl, hd, hs, q⟩ := h
  obtain ⟨its, rv, pl, hz⟩ := I.list hl
  rw [Vals.ref1 r]
  have sk := sortOk_of hs
  have each : ∀ {us : List Value} {M : List (V × D)}, Vals (M.map (·.1)) us → EachIs (fun u z => z ∈ M ∧ RelV z.1 u) us M := by
    have go : ∀ {us : List Value} {M N : List (V × D)}, (∀ z ∈ M, z ∈ N) → Vals (M.map (·.1)) us → EachIs (fun u z => z ∈ N ∧ RelV z.1 u) us M := by
      intro us M
      induction M generalizing us with
      | nil => intro N _ v; cases v; exact .nil
      | cons z M ih =>
        intro N hN v
        rw [List.map_cons] at v
        cases v with
        | cons a t => exact .cons ⟨hN z List.mem_cons_self, a⟩ (ih (fun y hy => hN y (List.mem_cons_of_mem _ hy)) t)
    exact fun {us M} v => go (N := M) (fun _ h => h) v
  have back : ∀ {us : List Value} {M : List (V × D)}, EachIs (fun u z => z ∈ zs ∧ RelV z.1 u) us M → Vals (M.map (·.1)) us := by
    intro us M e
    induction e with
    | nil => exact .nil
    | cons h _ ih => exact .cons h.2 ih
  have ez := each rv
  have lz : zs.length ≤ sizeLine := by rw [List.length_map] at hz; exact hz
  refine sorted_data (s := s) pl.isList ez (ez.mono fun u z ⟨hz, hr⟩ => Dp.reads I _ _ _ (hd z hz) hr) sk.1 sk.2.1 lz (fun z hz => ?_) fun out lo eo => ?_
  · have := sk.2.2 (pyD z.2) (List.mem_map_of_mem (f := fun z : V × D => pyD z.2) hz); omega
  · obtain ⟨ep, he⟩ := PyProof.Rows.sortedAll_at s.heap its out.toArray
    have hn := I.hok.fresh (Nat.le_succ s.heap.objs.size)
    refine ⟨.ref _, _, I.laid (t' := s.toks) (fun _ _ => PyProof.Rows.sortedAll_old) (Nat.le_succ _) (o := .lst ((zs.mergeSort (dataLe false fun z => pyD z.2)).map (·.1))) ⟨?_, out, ep, back eo, he⟩, rfl, q _ hn⟩
    rw [List.length_map, List.length_mergeSort]; exact lz
def sortedD : List D → Option Val
  | [.lst ds] => (toPys ds).bind fun ps => if sortOk ps = true then some (.fr (.lst (ds.mergeSort (dataLe false pyD)))) else none
  | _ => none
theorem toPys_map : ∀ {ds : List D} {ps : List PyData}, toPys ds = some ps → ps = ds.map pyD ∧ ∀ d ∈ ds, toPy d = some (pyD d)
  | [], ps, h => by simp only [toPys] at h; cases h; exact ⟨rfl, fun d hd => by cases hd⟩
  | d :: ds, ps, h => by
    simp only [toPys] at h
    obtain ⟨p, e1, h⟩ := Option.bind_eq_some_iff.mp h
    obtain ⟨r, e2, rfl⟩ := Option.map_eq_some_iff.mp h
    obtain ⟨q1, q2⟩ := toPys_map e2
    have ed : toPy d = some (pyD d) := by unfold pyD; rw [e1]; rfl
    refine ⟨by rw [List.map_cons, ← q1]; unfold pyD; rw [e1]; rfl, fun x hx => ?_⟩
    rcases List.mem_cons.mp hx with z | z
    · rw [z]; exact ed
    · exact q2 x z
theorem zips_of {C : Wd} {Hs : Hp} : ∀ {ds : List D} {xs : List V}, RpL C Hs ds xs → ∃ zs : List (V × D), xs = zs.map (·.1) ∧ ds = zs.map (·.2) ∧ ∀ z ∈ zs, Rp C Hs z.2 z.1
  | [], xs, r => by simp only [RpL] at r; subst r; exact ⟨[], rfl, rfl, fun z hz => by cases hz⟩
  | d :: ds, xs, r => by
    simp only [RpL] at r
    obtain ⟨v, t, rfl, h1, h2⟩ := r
    obtain ⟨zs, q1, q2, q3⟩ := zips_of h2
    refine ⟨(v, d) :: zs, by rw [List.map_cons, q1], by rw [List.map_cons, q2], fun z hz => ?_⟩
    rcases List.mem_cons.mp hz with e | hz
    · subst e; exact h1
    · exact q3 z hz
theorem rpL_zip {C : Wd} {Hs : Hp} : ∀ {zs : List (V × D)}, (∀ z ∈ zs, Rp C Hs z.2 z.1) → RpL C Hs (zs.map (·.2)) (zs.map (·.1))
  | [], _ => RpL.nil
  | z :: zs, h => RpL.cons (h z List.mem_cons_self) (rpL_zip fun y hy => h y (List.mem_cons_of_mem _ hy))
theorem callT_sorted {C : Wd} : CallT C (rSortG C.K) sortedD := by
  intro Hs H xs ds val Q ex h g k
  unfold sortedD at g
  split at g
  · rename_i es
    obtain ⟨ps, e, g⟩ := Option.bind_eq_some_iff.mp g
    split at g
    · rename_i hs
      cases g
      obtain ⟨v, rfl, q⟩ := h.one
      obtain ⟨a, ys, rfl, h1, h2⟩ := q.lst ex
      obtain ⟨zs, rfl, rfl, q3⟩ := zips_of h2
      obtain ⟨e1, e2⟩ := toPys_map e
      refine ⟨a, zs, rfl, SqL.of h1, fun z hz => Dp.ex ex _ _ (dp_of z.2 z.1 _ (q3 z hz) (e2 _ (List.mem_map_of_mem hz))), by rw [e1, List.map_map] at hs; exact hs, fun l hl => ?_⟩
      refine k _ _ Hs (Grow.new ex hl) ⟨l, rfl, hl, xBack ex hl, _, upd_same, ?_⟩
      rw [← sort_maps (r := dataLe false fun z : V × D => pyD z.2) (s := dataLe false pyD) (fun z : V × D => z.2) fun _ _ _ _ => rfl]
      exact rpL_zip fun z hz => q3 z (List.mem_mergeSort.mp hz)
    · cases g
  · cases g
end VE
namespace VE
open PySem PySem.Spec PyProof.Rows L2 PySem.W
abbrev nK (P : Program) (w : World) : HeapKind P w NK := nestedKind P w
def valN (kvs : List (NK × Addr × V)) (k : NK) : Option V := (kvs.find? fun q => decide (q.1 = k)).map (·.2.2)
def putN (kvs : List (NK × Addr × V)) (k : NK) (b : Addr) (v : V) : List (NK × Addr × V) := if (kvs.any fun q => decide (q.1 = k)) = true then kvs.map (fun q => if q.1 = k then (q.1, q.2.1, v) else q) else kvs ++ [(k, b, v)]
abbrev KN : List (NK × Addr × V) → List (NK × Addr × Value) → Prop := Paired fun p q => p.1 = q.1 ∧ p.2.1 = q.2.1 ∧ RelV p.2.2 q.2.2
theorem KN.find {k : NK} : ∀ {xs : List (NK × Addr × V)} {ys : List (NK × Addr × Value)}, KN xs ys → RelO (valN xs k) ((atKey ys k).map (·.2)) ∧ (xs.any fun q => decide (q.1 = k)) = (atKey ys k).isSome
  | _, _, .nil => ⟨trivial, rfl⟩
  | _, _, .cons (a := p) (b := q) ⟨h1, h2, h3⟩ t => by
    obtain ⟨i1, i2⟩ := KN.find (k := k) t
    by_cases e : p.1 = k
    · have e' : q.1 = k := h1 ▸ e
      simp only [valN, atKey, List.find?_cons, List.any_cons, e, e', decide_true, Bool.true_or, Option.map_some, Option.isSome_some]
      exact ⟨h3, trivial⟩
    · have e' : ¬ q.1 = k := fun z => e (h1.trans z)
      simp only [valN, atKey, List.find?_cons, List.any_cons, e, e', decide_false, Bool.false_or]
      exact ⟨i1, i2⟩
theorem KN.map {k : NK} {v : V} {u : Value} (r : RelV v u) : ∀ {xs : List (NK × Addr × V)} {ys : List (NK × Addr × Value)}, KN xs ys → KN (xs.map fun q => if q.1 = k then (q.1, q.2.1, v) else q) (ys.map (putAt k u))
  | _, _, .nil => .nil
  | _, _, .cons (a := p) (b := q) ⟨h1, h2, h3⟩ t => by
    rw [List.map_cons, List.map_cons]
    refine .cons ?_ (KN.map r t)
    unfold putAt
    by_cases e : p.1 = k
    · rw [if_pos e, if_pos (h1 ▸ e)]; exact ⟨h1, h2, r⟩
    · rw [if_neg e, if_neg fun z => e (h1.trans z)]; exact ⟨h1, h2, h3⟩
theorem KN.put {k : NK} {b : Addr} {v : V} {u : Value} {xs : List (NK × Addr × V)} {ys : List (NK × Addr × Value)} (h : KN xs ys) (r : RelV v u) : KN (putN xs k b v) (storedH ys k b u) := by
  unfold putN storedH
  rw [(KN.find (k := k) h).2]
  split
  · exact h.map r
  · exact Paired.snoc h ⟨rfl, rfl, r⟩
theorem putN_len (xs : List (NK × Addr × V)) (k : NK) (b : Addr) (v : V) : (putN xs k b v).length ≤ xs.length + 1 := by
  unfold putN
  split
  · rw [List.length_map]; omega
  · rw [List.length_append]; simp
section
variable {X : Cx} {pins : List (Addr × Obj)} {σ : L2.St} {H : Hp} {s : Shared} {a : Addr}
mutual
theorem NkAt.is (I : L2.Inv X pins σ H s) : ∀ (k : NK) (v : V) (u : Value), NkAt H k v → RelV v u → NestedIs s.heap k u
  | .none, _, _, h, r => by simp only [NkAt] at h; subst h; cases r; exact .none
  | .num i, _, _, h, r => by simp only [NkAt] at h; subst h; obtain ⟨t, rfl⟩ := r; exact .int _ _
  | .text x, _, _, h, r => by simp only [NkAt] at h; subst h; obtain ⟨t, rfl⟩ := r; exact .text _ _
  | .tup ks, _, _, h, r => by
    simp only [NkAt] at h
    obtain ⟨b, xs, rfl, h1, h2⟩ := h
    cases r
    obtain ⟨_, its, rv, o, q1, q2, n, q3⟩ := (show ObjOk X.prog X.w H s.heap b (.tup xs) from I.hok b _ h1)
    exact .tup q1 q2 q3 (NkAll.is I ks xs its h2 rv)
theorem NkAll.is (I : L2.Inv X pins σ H s) : ∀ (ks : List NK) (vs : List V) (us : List Value), NkAll H ks vs → Vals vs us → NestedAll s.heap ks us
  | [], _, _, h, r => by simp only [NkAll] at h; subst h; cases r; exact .nil
  | k :: ks, _, _, h, r => by
    simp only [NkAll] at h
    obtain ⟨v, t, rfl, h1, h2⟩ := h
    cases r with
    | cons a b => exact .cons (NkAt.is I k v _ h1 a) (NkAll.is I ks t _ h2 b)
end
mutual
theorem nkAt_of {C : Wd} {Hs : Hp} : ∀ (d : D) (v : V) (k : NK), Rp C Hs d v → nkD d = some k → NkAt Hs k v
  | .non, v, k, h, e => by simp only [Rp, nkD] at h e; cases e; simp only [NkAt]; exact h
  | .int _, v, k, h, e => by simp only [Rp, nkD] at h e; cases e; simp only [NkAt]; exact h
  | .str _, v, k, h, e => by simp only [Rp, nkD] at h e; cases e; simp only [NkAt]; exact h
  | .tup ds, v, k, h, e => by
    simp only [Rp, nkD] at h e
    obtain ⟨a, xs, rfl, h1, h2⟩ := h
    obtain ⟨ks, e1, rfl⟩ := Option.map_eq_some_iff.mp e
    simp only [NkAt]
    exact ⟨a, xs, rfl, h1, nkAll_of ds xs ks h2 e1⟩
  | .bl _, v, k, h, e => by simp only [nkD] at e; cases e
  | .lst _, v, k, h, e => by simp only [nkD] at e; cases e
  | .scr _, v, k, h, e => by simp only [nkD] at e; cases e
  | .dct _ _, v, k, h, e => by simp only [nkD] at e; cases e
  | .ins _ _, v, k, h, e => by simp only [nkD] at e; cases e
  | .box _, v, k, h, e => by simp only [nkD] at e; cases e
theorem nkAll_of {C : Wd} {Hs : Hp} : ∀ (ds : List D) (vs : List V) (ks : List NK), RpL C Hs ds vs → nkDs ds = some ks → NkAll Hs ks vs
  | [], vs, ks, h, e => by simp only [RpL, nkDs] at h e; cases e; simp only [NkAll]; exact h
  | d :: ds, vs, ks, h, e => by
    simp only [RpL, nkDs] at h e
    obtain ⟨v, r, rfl, h1, h2⟩ := h
    obtain ⟨k, e1, e⟩ := Option.bind_eq_some_iff.mp e
    obtain ⟨t, e2, rfl⟩ := Option.map_eq_some_iff.mp e
    simp only [NkAll]
    exact ⟨v, r, rfl, nkAt_of d v k h1 e1, nkAll_of ds r t h2 e2⟩
end
def KeysN (H : Hp) (kvs : List (NK × Addr × V)) : Prop := ∀ q ∈ kvs, NkAt H q.1 (.ref q.2.1) ∧ q.1.depth ≤ 8
theorem dn_of (I : L2.Inv X pins σ H s) {kvs : List (NK × Addr × V)} (e : H a = some (dN X.prog X.w a kvs)) (hk : KeysN H kvs) : kvs.length ≤ sizeLine ∧ (a == sysModules) = false ∧ ∃ ys, KN kvs ys ∧ s.heap.DictOfH (nK X.prog X.w) a ys := by
  obtain ⟨⟨z, y, ys, r, o, es, ep, h1, h2, h3, h4, h5⟩, _, _⟩ := (show ObjOk X.prog X.w H s.heap a (dN X.prog X.w a kvs) from I.hok a _ e)
  refine ⟨z, y, ys, r, o, es, ep, h1, h2, h3, h4, fun x hx => ?_, h5⟩
  have go : ∀ {xs : List (NK × Addr × V)} {ys : List (NK × Addr × Value)}, KN xs ys → (∀ q ∈ xs, NkAt H q.1 (.ref q.2.1) ∧ q.1.depth ≤ 8) → ∀ x ∈ ys, NestedIs s.heap x.1 (.ref x.2.1) ∧ x.1.depth ≤ 8 := by
    intro xs ys r
    induction r with
    | nil => intro _ x hx; cases hx
    | @cons p q ps qs h t ih =>
      intro hk x hx
      rcases List.mem_cons.mp hx with e | hx
      · subst e
        obtain ⟨k1, k2⟩ := hk p List.mem_cons_self
        exact ⟨by rw [← h.1]; exact NkAt.is I _ _ _ k1 (by show Value.ref _ = Value.ref _; rw [h.2.1]), by rw [← h.1]; exact k2⟩
      · exact ih (fun q hq => hk q (List.mem_cons_of_mem _ hq)) x hx
  exact go r hk x hx
def DG (C : Wd) (H : Hp) (a : Addr) (y : V) (o : Option V) : Prop := DGet H a y o ∨ ∃ kvs k b, H a = some (dN C.P C.w a kvs) ∧ KeysN H kvs ∧ y = .ref b ∧ NkAt H k (.ref b) ∧ k.depth ≤ 8 ∧ o = valN kvs k
def DP (C : Wd) (H : Hp) (a : Addr) (y v : V) (H' : Hp) : Prop := DPut H a y v H' ∨ ∃ kvs k b, H a = some (dN C.P C.w a kvs) ∧ KeysN H kvs ∧ y = .ref b ∧ NkAt H k (.ref b) ∧ k.depth ≤ 8 ∧ kvs.length < sizeLine ∧ H' = upd H a (dN C.P C.w a (putN kvs k b v))
variable {y v : V} {u r : Value} {o : Option V} {A : Around} {E : Value → Shared → Prop}
theorem room_n (hu : A.units + 64 < cLine) : (nK X.prog X.w).room A.in1 := show A.units + 1 + 8 < cLine by omega
theorem dg_item {Q : Value → Shared → Prop} (hu : A.units + 64 < cLine) (I : L2.Inv X pins σ H s) (g : DG (wdOf X) H a y (some v)) (ry : RelV y u) (h : ∀ w' s', L2.Inv X pins σ H s' → RelV v w' → Q w' s') : wpAny (model X.prog X.w) A (getItem (.ref a) u) Q E s := by
  rcases g with g | ⟨kvs, k, b, e, hk, rfl, kb, dk, l⟩
  · exact d_getItem (by omega) I g ry h
  · obtain ⟨z, hd, ys, rel, dd⟩ := dn_of I e hk
    cases ry
    obtain ⟨w', hw, rw'⟩ := RelO.some_of (v := v) (o := (atKey ys k).map (·.2)) (by rw [l]; exact (KN.find rel).1)
    obtain ⟨p, hp, hp2⟩ := Option.map_eq_some_iff.mp hw
    refine wpAny_getItem_heap (knd := nK X.prog X.w) (room_n hu) ⟨NkAt.is I k _ _ kb rfl, dk⟩ dd hp ?_
    rw [hp2]; exact h w' _ (I.tok _) rw'
theorem dg_in {Q : Value → Shared → Prop} (hu : A.units + 64 < cLine) (I : L2.Inv X pins σ H s) (g : DG (wdOf X) H a y o) (ry : RelV y u) (h : ∀ s', L2.Inv X pins σ H s' → Q (.bool o.isSome) s') : wpAny (model X.prog X.w) A (compareOp .In u (.ref a)) Q E s := by
  rcases g with g | ⟨kvs, k, b, e, hk, rfl, kb, dk, l⟩
  · exact d_in (by omega) I g ry h
  · obtain ⟨z, hd, ys, rel, dd⟩ := dn_of I e hk
    cases ry
    have q := (KN.find (k := k) rel).1.isSome_eq
    rw [Option.isSome_map] at q
    refine wpAny_in_heap (knd := nK X.prog X.w) (room_n hu) ⟨NkAt.is I k _ _ kb rfl, dk⟩ hd dd ?_
    rw [← q, ← l]; exact h _ (I.tok _)
theorem dg_notIn {Q : Value → Shared → Prop} (hu : A.units + 64 < cLine) (I : L2.Inv X pins σ H s) (g : DG (wdOf X) H a y o) (ry : RelV y u) (h : ∀ s', L2.Inv X pins σ H s' → Q (.bool (!o.isSome)) s') : wpAny (model X.prog X.w) A (compareOp .NotIn u (.ref a)) Q E s := by
  rcases g with g | ⟨kvs, k, b, e, hk, rfl, kb, dk, l⟩
  · exact d_notIn (by omega) I g ry h
  · obtain ⟨z, hd, ys, rel, dd⟩ := dn_of I e hk
    cases ry
    have q := (KN.find (k := k) rel).1.isSome_eq
    rw [Option.isSome_map] at q
    refine wpAny_notIn_heap (knd := nK X.prog X.w) (room_n hu) ⟨NkAt.is I k _ _ kb rfl, dk⟩ hd dd ?_
    rw [← q, ← l]; exact h _ (I.tok _)
theorem dn_new {P : Program} {w : World} {H' : Hp} {h' : Heap} {kvs : List (NK × Addr × V)} {ys : List (NK × Addr × Value)} (z : kvs.length ≤ sizeLine) (hd : (a == sysModules) = false) (r : KN kvs ys) {q : Obj} {es : Array DictEntry} {ep : Nat} (h1 : h'.get? a = some q) (h2 : q.ExactDict) (h3 : q.data = .dict es ep) (h4 : es.toList = ys.map (entryOfKey (nK P w))) (h5 : (ys.map (·.1)).Nodup) :
    ObjOk P w H' h' a (dN P w a kvs) :=
  ⟨⟨z, hd, ys, r, q, es, ep, h1, h2, h3, h4, h5⟩, ⟨q, h1⟩, fun g1 g2 ⟨z, hd, ys, r, q, es, ep, h1, h2, h3, h4, h5⟩ k => ⟨z, hd, ys, r, q, es, ep, k _ h1, h2, h3, h4, h5⟩⟩
theorem dp_set {H' : Hp} {Q : Unit → Shared → Prop} (hu : A.units + 64 < cLine) (I : L2.Inv X pins σ H s) (g : DP (wdOf X) H a y v H') (ry : RelV y u) (rv : RelV v r) (h : ∀ s', L2.Inv X pins σ H' s' → Q () s') : wpAny (model X.prog X.w) A (setItem (.ref a) u r) Q E s := by
  rcases g with g | ⟨kvs, k, b, e, hk, rfl, kb, dk, l, rfl⟩
  · exact d_setItem (by omega) I g ry rv h
  · obtain ⟨z, hd, ys, rel, dd⟩ := dn_of I e hk
    cases ry
    have lp := putN_len kvs k b v
    refine wpAny_setItem_heap (knd := nK X.prog X.w) (hsz := by rw [← Paired.length rel]; exact z) (room_n hu) ⟨NkAt.is I k _ _ kb rfl, dk⟩ dd fun h' dd' hs => h _ ?_
    obtain ⟨q, es, ep, hq, h2, h3, h4, _, h5⟩ := dd'
    exact d_write I (by rw [e]; exact True.intro) hs ⟨q, hq⟩ (dn_new (by omega) hd (rel.put rv) hq h2 h3 h4 h5)
theorem dg_type (I : L2.Inv X pins σ H s) (g : DG (wdOf X) H a y o) : s.TypeIs (.ref a) "dict" := by
  rcases g with g | ⟨kvs, k, b, e, hk, _⟩
  · exact dict_typeIs I g
  · obtain ⟨_, _, ys, _, dd⟩ := dn_of I e hk
    exact dd.typeIs
end
def rDix (C : Wd) : R2 := fun x y H Q => ∃ a v, x = V.ref a ∧ DG C H a y (some v) ∧ Q v H
def rDin (C : Wd) (neg : Bool) : R2 := fun y x H Q => ∃ a o, x = V.ref a ∧ DG C H a y o ∧ Q (.bl (if neg then !o.isSome else o.isSome)) H
def rDset (C : Wd) : V → V → V → Hp → (Hp → Prop) → Prop := fun x y v H Q => ∃ a H', x = V.ref a ∧ DP C H a y v H' ∧ Q H'
section
variable {X : Cx}
theorem ix_dct (hu : X.A.units + 64 < cLine) : IxR X (rDix (wdOf X)) := by
  intro value slice pins s σ H x y v u Q I rx ry h hs
  obtain ⟨a, z, rfl, g, q⟩ := h
  cases rx
  exact tail_any (dg_type I g) PySem.F.slot_dict_getitem.lookup (dg_item hu I g ry fun w' s' J rw' => ⟨z, H, J, rw', q⟩) hs
theorem op_din (hu : X.A.units + 64 < cLine) : OpR X (compareOp .In) (rDin (wdOf X) false) := by
  intro pins s σ H x y v u Q I rx ry h
  obtain ⟨a, o, rfl, g, q⟩ := h
  cases ry
  exact dg_in hu I g rx fun s' J => ⟨.bl _, H, J, rfl, q⟩
theorem op_dnotin (hu : X.A.units + 64 < cLine) : OpR X (compareOp .NotIn) (rDin (wdOf X) true) := by
  intro pins s σ H x y v u Q I rx ry h
  obtain ⟨a, o, rfl, g, q⟩ := h
  cases ry
  exact dg_notIn hu I g rx fun s' J => ⟨.bl _, H, J, rfl, q⟩
theorem set_dct (hu : X.A.units + 64 < cLine) : PSet X (rDset (wdOf X)) := by
  intro pins s σ H o i v ov iv u Q I ro ri rv h
  obtain ⟨a, H', rfl, g, q⟩ := h
  cases ro
  exact dp_set hu I g ri rv fun s' J => ⟨H', J, q⟩
def tDNewN (C : Wd) : TE := fun _ H Q => ∀ p, H p = none → Q (.ref p) (upd H p (dN C.P C.w p []))
theorem pe_dnewN {pos : Pos} : PE X (.Dict [] [] pos) (tDNewN (wdOf X)) := ⟨fun pins s σ H Q I h =>
  wpAny_Dict_empty ⟨.ref s.heap.objs.size, _, I.laid (a := s.heap.objs.size) (o := dN X.prog X.w s.heap.objs.size []) (t' := s.toks) (fun _ _ q => Heap.get?_push_of_some _ q) (Nat.le_refl _) (dn_new (Nat.zero_le _) (beq_eq_false_iff_ne.mpr (Ne.symm (Nat.ne_of_lt I.big))) .nil (Heap.get?_push_size _ rfl) ⟨rfl, rfl, rfl⟩ rfl rfl List.nodup_nil), rfl, h _ (I.hok.fresh (Nat.le_refl _))⟩⟩
def rLenD (C : Wd) : List V → Hp → VK → Prop := fun xs H Q => ∃ a n, xs = [V.ref a] ∧ ((∃ kvs, H a = some (.dK kvs) ∧ n = kvs.length) ∨ (∃ kvs, H a = some (.dT kvs) ∧ n = kvs.length) ∨ ∃ kvs, H a = some (dN C.P C.w a kvs) ∧ KeysN H kvs ∧ n = kvs.length) ∧ Q (.int (n : Nat)) H
theorem call_lenDD : CallR X (.builtin "len") (rLenD (wdOf X)) := by
  intro pins s σ H xs us Q I r h
  obtain ⟨a, n, rfl, g, q⟩ := h
  rcases g with ⟨kvs, e, rfl⟩ | ⟨kvs, e, rfl⟩ | ⟨kvs, e, hk, rfl⟩
  · rw [Vals.ref1 r]
    exact d_len I (.inl e) fun t s' J => ⟨.int _, H, J, ⟨t, rfl⟩, q⟩
  · exact call_len_dT pins s σ H _ us Q I r ⟨a, kvs, rfl, e, q⟩
  · rw [Vals.ref1 r]
    obtain ⟨z, hd, ys, rel, dd⟩ := dn_of I e hk
    have l := Paired.length rel
    refine call_len_dictH (knd := nK X.prog X.w) hd dd (by rw [← l]; rw [sizeLine_eq] at z; omega) ⟨.int _, H, (I.tok _).tok _, ⟨_, by rw [l]⟩, q⟩
end
end VE
namespace VE
open PySem PySem.Spec PyProof.Rows L2 PySem.W
def kN : Key → NK
  | .inl i => .num i
  | .inr x => .text x
theorem kN_inj : ∀ {a b : Key}, kN a = kN b → a = b
  | .inl _, .inl _, h => by cases h; rfl
  | .inr _, .inr _, h => by cases h; rfl
  | .inl _, .inr _, h => by cases h
  | .inr _, .inl _, h => by cases h
theorem kNs_inj : ∀ {a b : List Key}, a.map kN = b.map kN → a = b
  | [], [], _ => rfl
  | [], _ :: _, h => by simp at h
  | _ :: _, [], h => by simp at h
  | x :: a, y :: b, h => by
    simp only [List.map_cons, List.cons.injEq] at h
    rw [kN_inj h.1, kNs_inj h.2]
def tN (ks : List Key) : NK := .tup (ks.map kN)
theorem tN_inj {a b : List Key} (h : tN a = tN b) : a = b := kNs_inj (NestedKey.tup.inj h)
theorem keyD_nk {d : D} {k : Key} (h : keyD d = some k) : nkD d = some (kN k) := by
  cases d <;> simp only [keyD] at h <;> cases h <;> rfl
theorem keyDs_nk : ∀ {ds : List D} {ks : List Key}, ds.mapM keyD = some ks → nkDs ds = some (ks.map kN)
  | [], ks, h => by cases h; rfl
  | d :: ds, ks, h => by
    rw [List.mapM_cons] at h
    obtain ⟨k, e1, h⟩ := Option.bind_eq_some_iff.mp h
    obtain ⟨r, e2, h⟩ := Option.bind_eq_some_iff.mp h
    cases h
    simp only [nkDs, keyD_nk e1, keyDs_nk e2, Option.bind_some, Option.map_some, List.map_cons]
theorem keyT_nk {d : D} {ks : List Key} (h : keyT d = some ks) : nkD d = some (tN ks) := by
  cases d <;> simp only [keyT] at h <;> try cases h
  rename_i ds
  simp only [nkD, keyDs_nk h, Option.map_some]; rfl
theorem key_val {C : Wd} {Hs : Hp} {d : D} {k : Key} {v : V} (r : Rp C Hs d v) (h : keyD d = some k) : v = kV k := by
  cases d <;> simp only [keyD] at h <;> cases h <;> simpa only [Rp, kV] using r
theorem keys_val {C : Wd} {Hs : Hp} : ∀ {ds : List D} {ks : List Key} {xs : List V}, RpL C Hs ds xs → ds.mapM keyD = some ks → xs = ks.map kV
  | [], ks, xs, r, h => by cases h; simp only [RpL] at r; exact r
  | d :: ds, ks, xs, r, h => by
    rw [List.mapM_cons] at h
    obtain ⟨k, e1, h⟩ := Option.bind_eq_some_iff.mp h
    obtain ⟨t, e2, h⟩ := Option.bind_eq_some_iff.mp h
    cases h
    simp only [RpL] at r
    obtain ⟨v, u, rfl, h1, h2⟩ := r
    rw [key_val h1 e1, keys_val h2 e2]; rfl
def hasKey (p : D × D) (k : NK) : Bool := decide (nkD p.1 = some k)
def dGet (kvs : List (D × D)) (k : NK) : Option D := (kvs.find? fun p => hasKey p k).map (·.2)
def dPut (kvs : List (D × D)) (k : NK) (kd d : D) : List (D × D) := if (kvs.any fun p => hasKey p k) = true then kvs.map (fun p => if hasKey p k = true then (p.1, d) else p) else kvs ++ [(kd, d)]
section
variable {C : Wd} {Hs H : Hp} {κ β : Type} [DecidableEq κ] {f : κ → NK} {key : β → κ} {val : β → V}
abbrev AL (C : Wd) (Hs : Hp) (f : κ → NK) (key : β → κ) (val : β → V) : List (D × D) → List β → Prop := Paired fun p q => nkD p.1 = some (f (key q)) ∧ Rp C Hs p.2 (val q)
theorem AL.has (fi : ∀ {a b}, f a = f b → a = b) {p : D × D} {q : β} (h : nkD p.1 = some (f (key q))) (k : κ) : hasKey p (f k) = decide (key q = k) := by
  unfold hasKey
  rw [h]
  by_cases e : key q = k
  · rw [e]; simp
  · rw [decide_eq_false e, decide_eq_false fun z => e (fi (Option.some.inj z))]
theorem AL.find (fi : ∀ {a b}, f a = f b → a = b) (k : κ) : ∀ {kvs : List (D × D)} {qs : List β}, AL C Hs f key val kvs qs →
    ((dGet kvs (f k) = none ∧ (qs.find? fun q => decide (key q = k)) = none) ∨ ∃ d q, dGet kvs (f k) = some d ∧ (qs.find? fun q => decide (key q = k)) = some q ∧ Rp C Hs d (val q)) ∧ (kvs.any fun p => hasKey p (f k)) = (qs.any fun q => decide (key q = k))
  | _, _, .nil => ⟨.inl ⟨rfl, rfl⟩, rfl⟩
  | _, _, .cons (a := p) (b := q) ⟨h1, h2⟩ t => by
    obtain ⟨i1, i2⟩ := AL.find fi k t
    have e := AL.has fi h1 k
    unfold dGet at i1 ⊢
    rw [List.find?_cons, List.find?_cons, List.any_cons, List.any_cons, e, i2]
    by_cases z : key q = k
    · rw [decide_eq_true z]
      exact ⟨.inr ⟨p.2, q, rfl, rfl, h2⟩, rfl⟩
    · rw [decide_eq_false z]
      exact ⟨i1, rfl⟩
theorem AL.rep (fi : ∀ {a b}, f a = f b → a = b) (k : κ) {d : D} {g : β → β} (hg : ∀ q, key (g q) = key q) (hv : ∀ q, key q = k → Rp C Hs d (val (g q))) (hn : ∀ q, key q ≠ k → g q = q) : ∀ {kvs : List (D × D)} {qs : List β}, AL C Hs f key val kvs qs →
    AL C Hs f key val (kvs.map fun p => if hasKey p (f k) = true then (p.1, d) else p) (qs.map g)
  | _, _, .nil => .nil
  | _, _, .cons (a := p) (b := q) ⟨h1, h2⟩ t => by
    rw [List.map_cons, List.map_cons]
    refine .cons ?_ (AL.rep fi k hg hv hn t)
    rw [AL.has fi h1 k]
    by_cases z : key q = k
    · rw [if_pos (decide_eq_true z)]
      exact ⟨by rw [hg]; exact h1, hv q z⟩
    · rw [if_neg (by simpa using z), hn q z]
      exact ⟨h1, h2⟩
theorem al_len : ∀ {kvs : List (D × D)} {qs : List β}, AL C Hs f key val kvs qs → qs.length = kvs.length := fun h => (Paired.length h).symm
theorem al_of {g : D → Option κ} (hg : ∀ d k, g d = some k → nkD d = some (f k)) : ∀ {kvs : List (D × D)} {qs : List β}, (kvs.map Prod.fst).map g = qs.map (fun q => some (key q)) → RpV C Hs kvs (qs.map val) → AL C Hs f key val kvs qs
  | [], [], _, _ => .nil
  | [], _ :: _, e, _ => by simp at e
  | _ :: _, [], e, _ => by simp at e
  | (k, d) :: kvs, q :: qs, e, r => by
    simp only [List.map_cons, List.cons.injEq] at e
    simp only [RpV, List.map_cons] at r
    obtain ⟨v, t, e3, h1, h2⟩ := r
    rw [List.cons.injEq] at e3
    obtain ⟨rfl, rfl⟩ := e3
    exact .cons ⟨hg _ _ e.1, h1⟩ (al_of hg e.2 h2)
theorem al_val : ∀ {kvs : List (D × D)} {qs : List β}, AL C Hs f key val kvs qs → RpV C Hs kvs (qs.map val)
  | _, _, .nil => by simp only [List.map_nil, RpV]
  | _, _, .cons (a := p) (b := q) ⟨h1, h2⟩ t => by
    obtain ⟨k, d⟩ := p
    simp only [List.map_cons, RpV]
    exact ⟨_, _, rfl, h2, al_val t⟩
theorem al_key {g : D → Option κ} (fi : ∀ {a b}, f a = f b → a = b) (hg : ∀ d k, g d = some k → nkD d = some (f k)) : ∀ {kvs : List (D × D)} {qs : List β}, AL C Hs f key val kvs qs → (∀ p ∈ kvs, (g p.1).isSome = true) → (kvs.map Prod.fst).map g = qs.map (fun q => some (key q))
  | _, _, .nil, _ => rfl
  | _, _, .cons (a := p) (b := q) ⟨h1, h2⟩ t, hs => by
    simp only [List.map_cons, List.cons.injEq]
    refine ⟨?_, al_key fi hg t fun x hx => hs x (List.mem_cons_of_mem _ hx)⟩
    cases e : g p.1 with
    | none => exact absurd (hs p List.mem_cons_self) (by rw [e]; simp)
    | some k =>
      have := (hg _ _ e).symm.trans h1
      rw [fi (Option.some.inj this)]
end
def dKey (t : Nat) (k : D) : Option NK := match t with
  | 0 => (keyD k).map kN
  | 1 => (keyT k).map tN
  | 2 => (nkD k).bind fun n => match n with
    | .tup ks => if NestedKey.depth (.tup ks) ≤ 8 then some (.tup ks) else none
    | _ => none
  | _ => none
theorem RdV.dct {C : Wd} {Hs H : Hp} {t : Nat} {kvs : List (D × D)} {v : V} (ex : Ex Hs H) (h : RdV C Hs H (.dct t kvs) v) : ∃ a xs, v = .ref a ∧ DictAt C H Hs a t (kvs.map Prod.fst) xs ∧ RpV C Hs kvs xs := by
  rcases h with h | ⟨a, e, xs, h1, h2⟩
  · simp only [Rp] at h
    obtain ⟨a, xs, e, h1, h2⟩ := h
    exact ⟨a, xs, e, h1.mono (fun o q => ex _ _ q) (Ex.refl _), h2⟩
  · exact ⟨a, xs, e, h1, h2⟩
theorem RdV.key {C : Wd} {Hs H : Hp} {t : Nat} {k : D} {n : NK} {v : V} (h : RdV C Hs H k v) (e : dKey t k = some n) : Rp C Hs k v := by
  rcases h with h | ⟨a, _, h⟩
  · exact h
  · cases k with
    | lst _ => unfold dKey at e; split at e <;> simp [keyD, keyT, nkD] at e
    | ins _ _ => unfold dKey at e; split at e <;> simp [keyD, keyT, nkD] at e
    | dct _ _ => unfold dKey at e; split at e <;> simp [keyD, keyT, nkD] at e
    | _ => exact h.elim
theorem dg_of {C : Wd} {Hs H : Hp} {t : Nat} {kvs : List (D × D)} {k : D} {n : NK} {x y : V} (ex : Ex Hs H) (hx : RdV C Hs H (.dct t kvs) x) (hy : RdV C Hs H k y) (e : dKey t k = some n) :
    ∃ a o, x = .ref a ∧ DG C H a y o ∧ ((dGet kvs n = none ∧ o = none) ∨ ∃ d v, dGet kvs n = some d ∧ o = some v ∧ Rp C Hs d v) := by
  obtain ⟨a, xs, rfl, hd, hv⟩ := hx.dct ex
  have ry := hy.key e
  unfold dKey at e
  unfold DictAt at hd
  split at hd
  · obtain ⟨qs, h1, h2, rfl⟩ := hd
    obtain ⟨kk, e1, rfl⟩ := Option.map_eq_some_iff.mp e
    have al : AL C Hs kN (fun q : Key × V => q.1) (fun q => q.2) kvs qs := al_of (g := keyD) (fun d k h => keyD_nk h) h2 hv
    refine ⟨a, valV qs kk, rfl, .inl (.inl ⟨qs, kk, .inl h1, key_val ry e1, rfl⟩), ?_⟩
    rcases (AL.find kN_inj kk al).1 with ⟨q1, q2⟩ | ⟨d, q, q1, q2, q3⟩
    · exact .inl ⟨q1, by unfold valV; rw [q2]; rfl⟩
    · exact .inr ⟨d, q.2, q1, by unfold valV; rw [q2]; rfl, q3⟩
  · obtain ⟨qs, h1, h2, rfl⟩ := hd
    obtain ⟨kk, e1, rfl⟩ := Option.map_eq_some_iff.mp e
    have al : AL C Hs tN (fun q : List Key × V => q.1) (fun q => q.2) kvs qs := al_of (g := keyT) (fun d k h => keyT_nk h) h2 hv
    cases k <;> simp only [keyT] at e1 <;> try cases e1
    rename_i ds
    simp only [Rp] at ry
    obtain ⟨b, zs, rfl, hb, hz⟩ := ry
    refine ⟨a, valV qs kk, rfl, .inl (.inr ⟨qs, kk, b, .inl h1, rfl, by rw [← keys_val hz e1]; exact ex _ _ hb, rfl⟩), ?_⟩
    rcases (AL.find tN_inj kk al).1 with ⟨q1, q2⟩ | ⟨d, q, q1, q2, q3⟩
    · exact .inl ⟨q1, by unfold valV; rw [q2]; rfl⟩
    · exact .inr ⟨d, q.2, q1, by unfold valV; rw [q2]; rfl, q3⟩
  · obtain ⟨qs, h1, h2, rfl, h4⟩ := hd
    obtain ⟨kk, e1, e⟩ := Option.bind_eq_some_iff.mp e
    split at e
    · rename_i ks
      split at e
      · rename_i dp
        cases e
        have al : AL C Hs id (fun q : NK × Addr × V => q.1) (fun q => q.2.2) kvs qs := al_of (g := nkD) (fun d k h => h) h2 hv
        have ka := NkAt.mono ex _ _ (nkAt_of k y _ ry e1)
        have : ∃ b, y = .ref b := by simp only [NkAt] at ka; obtain ⟨b, _, q, _⟩ := ka; exact ⟨b, q⟩
        obtain ⟨b, rfl⟩ := this
        refine ⟨a, valN qs (.tup ks), rfl, .inr ⟨qs, .tup ks, b, h1, fun q hq => ⟨NkAt.mono ex _ _ (h4 q hq).1, (h4 q hq).2⟩, rfl, ka, dp, rfl⟩, ?_⟩
        rcases (AL.find (f := id) (fun h => h) (.tup ks) al).1 with ⟨q1, q2⟩ | ⟨d, q, q1, q2, q3⟩
        · exact .inl ⟨q1, by unfold valN; rw [q2]; rfl⟩
        · exact .inr ⟨d, q.2.2, q1, by unfold valN; rw [q2]; rfl, q3⟩
      · cases e
    · cases e
  · cases e
  · exact hd.elim
def ixU (d i : D) : Option Val := match d with
  | .dct t kvs => (dKey t i).bind fun n => (dGet kvs n).map .fz
  | _ => ixD d i
def rIxU (C : Wd) : R2 := fun x y H Q => rIx C.K x y H Q ∨ rDix C x y H Q
def inU (d e : D) : Option Val := match e with
  | .dct t kvs => (dKey t d).map fun n => .fz (.bl (dGet kvs n).isSome)
  | _ => inD d e
def notInU (d e : D) : Option Val := match e with
  | .dct t kvs => (dKey t d).map fun n => .fz (.bl (!(dGet kvs n).isSome))
  | _ => notInD d e
def rInV (C : Wd) : R2 := fun x y H Q => rInU C.K x y H Q ∨ rDin C false x y H Q
def rNotInV (C : Wd) : R2 := fun x y H Q => rNotInU C.K x y H Q ∨ rDin C true x y H Q
theorem opT_ixU {C : Wd} : OpT C (rIxU C) ixU := by
  intro Hs H x y dx dy val Q ex hx hy g k
  unfold ixU at g
  split at g
  · obtain ⟨n, e, g⟩ := Option.bind_eq_some_iff.mp g
    obtain ⟨d, e2, rfl⟩ := Option.map_eq_some_iff.mp g
    obtain ⟨a, o, rfl, dg, z⟩ := dg_of ex hx hy e
    rcases z with ⟨z, _⟩ | ⟨d', v, z, rfl, rp⟩
    · rw [z] at e2; cases e2
    · rw [z] at e2; cases e2
      exact .inr ⟨a, v, rfl, dg, atom_end ex k rp⟩
  · exact .inl (opT_ix Hs H x y dx dy val Q ex hx hy g k)
theorem opT_inV {C : Wd} : OpT C (rInV C) inU := by
  intro Hs H x y dx dy val Q ex hx hy g k
  unfold inU at g
  split at g
  · obtain ⟨n, e, rfl⟩ := Option.map_eq_some_iff.mp g
    obtain ⟨a, o, rfl, dg, z⟩ := dg_of ex hy hx e
    refine .inr ⟨a, o, rfl, dg, ?_⟩
    rcases z with ⟨z, rfl⟩ | ⟨d', v, z, rfl, rp⟩
    · rw [z] at k; exact atom_end ex k rpB
    · rw [z] at k; exact atom_end ex k rpB
  · exact .inl (opT_in Hs H x y dx dy val Q ex hx hy g k)
theorem opT_notInV {C : Wd} : OpT C (rNotInV C) notInU := by
  intro Hs H x y dx dy val Q ex hx hy g k
  unfold notInU at g
  split at g
  · obtain ⟨n, e, rfl⟩ := Option.map_eq_some_iff.mp g
    obtain ⟨a, o, rfl, dg, z⟩ := dg_of ex hy hx e
    refine .inr ⟨a, o, rfl, dg, ?_⟩
    rcases z with ⟨z, rfl⟩ | ⟨d', v, z, rfl, rp⟩
    · rw [z] at k; exact atom_end ex k rpB
    · rw [z] at k; exact atom_end ex k rpB
  · exact .inl (opT_notIn Hs H x y dx dy val Q ex hx hy g k)
section
variable {X : Cx}
theorem ix_all (hu : X.A.units + 65 < cLine) : IxR X (rIxU (wdOf X)) := ix_seq.or (ix_dct (by omega))
theorem opV_in (hu : X.A.units + 65 < cLine) : OpR X (compareOp .In) (rInV (wdOf X)) := (opU_in hu).or (op_din (by omega))
theorem opV_notIn (hu : X.A.units + 65 < cLine) : OpR X (compareOp .NotIn) (rNotInV (wdOf X)) := (opU_notIn hu).or (op_dnotin (by omega))
def lenU : List D → Option Val
  | [.dct t kvs] => if t < 3 then some (.fz (.int (kvs.length : Nat))) else none
  | ds => lenD ds
def rLenV (C : Wd) : List V → Hp → VK → Prop := fun xs H Q => rLenU C.K xs H Q ∨ rLenD C xs H Q
theorem callV_len : CallR X (.builtin "len") (rLenV (wdOf X)) := callU_len.or call_lenDD
theorem callT_lenU {C : Wd} : CallT C (rLenV C) lenU := by
  intro Hs H xs ds val Q ex h g k
  unfold lenU at g
  split at g
  · rename_i t kvs
    split at g
    case isFalse => cases g
    rename_i t3
    cases g
    obtain ⟨v, rfl, q⟩ := h.one
    obtain ⟨a, ys, rfl, hd, hv⟩ := q.dct ex
    have lv : ∀ {kvs : List (D × D)} {ys : List V}, RpV C Hs kvs ys → ys.length = kvs.length := by
      intro kvs
      induction kvs with
      | nil => intro ys h; simp only [RpV] at h; subst h; rfl
      | cons p kvs ih =>
        intro ys h
        obtain ⟨k, d⟩ := p
        simp only [RpV] at h
        obtain ⟨v, t, rfl, _, h2⟩ := h
        simp [ih h2]
    have ly := lv hv
    refine .inr ⟨a, kvs.length, rfl, ?_, atom_end ex k rpI⟩
    unfold DictAt at hd
    split at hd
    · obtain ⟨qs, h1, h2, rfl⟩ := hd
      exact .inl ⟨qs, h1, by rw [← ly, List.length_map]⟩
    · obtain ⟨qs, h1, h2, rfl⟩ := hd
      exact .inr (.inl ⟨qs, h1, by rw [← ly, List.length_map]⟩)
    · obtain ⟨qs, h1, h2, rfl, h4⟩ := hd
      exact .inr (.inr ⟨qs, h1, fun q hq => ⟨NkAt.mono ex _ _ (h4 q hq).1, (h4 q hq).2⟩, by rw [← ly, List.length_map]⟩)
    · exact absurd t3 (by decide)
    · exact hd.elim
  · exact .inl (callT_len Hs H xs ds val Q ex h g k)
end
end VE
namespace VE
open PySem PySem.Spec PyProof.Rows L2 PySem.W
theorem dPut_len (kvs : List (D × D)) (n : NK) (k d : D) : (dPut kvs n k d).length ≤ kvs.length + 1 := by
  unfold dPut
  split
  · rw [List.length_map]; omega
  · rw [List.length_append]; simp
theorem al_put {C : Wd} {Hs : Hp} {κ β : Type} [DecidableEq κ] {f : κ → NK} {key : β → κ} {val : β → V} (fi : ∀ {a b}, f a = f b → a = b) {k : κ} {kd d : D} {g : β → β} {new : β} (hg : ∀ q, key (g q) = key q) (hv : ∀ q, key q = k → Rp C Hs d (val (g q))) (hn : ∀ q, key q ≠ k → g q = q)
    (h1 : nkD kd = some (f k)) (h2 : key new = k) (h3 : Rp C Hs d (val new)) {kvs : List (D × D)} {qs : List β} (al : AL C Hs f key val kvs qs) : AL C Hs f key val (dPut kvs (f k) kd d) (if (qs.any fun q => decide (key q = k)) = true then qs.map g else qs ++ [new]) := by
  unfold dPut
  rw [(AL.find fi k al).2]
  split
  · exact AL.rep fi k hg hv hn al
  · exact Paired.snoc al ⟨by rw [h2]; exact h1, h3⟩
theorem any_key {κ β : Type} [DecidableEq κ] {key : β → κ} {g : D → Option κ} {kvs : List (D × D)} {qs : List β} (e : (kvs.map Prod.fst).map g = qs.map (fun q => some (key q))) : ∀ p ∈ kvs, (g p.1).isSome = true := fun p hp => by
  have : g p.1 ∈ (kvs.map Prod.fst).map g := List.mem_map_of_mem (List.mem_map_of_mem hp)
  rw [e] at this
  obtain ⟨q, _, e2⟩ := List.mem_map.mp this
  rw [← e2]; rfl
theorem mem_dPut {kvs : List (D × D)} {n : NK} {k d : D} {p : D × D} (h : p ∈ dPut kvs n k d) : (∃ q ∈ kvs, p.1 = q.1) ∨ p.1 = k := by
  unfold dPut at h
  split at h
  · obtain ⟨q, hq, rfl⟩ := List.mem_map.mp h
    refine .inl ⟨q, hq, ?_⟩
    split <;> rfl
  · rcases List.mem_append.mp h with h | h
    · exact .inl ⟨p, h, rfl⟩
    · rw [List.mem_singleton.mp h]; exact .inr rfl
theorem dput_of {C : Wd} {Hs H : Hp} {t : Nat} {kvs : List (D × D)} {k d : D} {n : NK} {a : Addr} {xs : List V} {y v : V} (ex : Ex Hs H) (na : Hs a = none) (hd : DictAt C H Hs a t (kvs.map Prod.fst) xs) (hv : RpV C Hs kvs xs) (ry : Rp C Hs k y) (rv : Rp C Hs d v) (e : dKey t k = some n) (len : kvs.length < 100000) :
    ∃ H' o, DP C H a y v H' ∧ H' = upd H a o ∧ OwnAt C Hs H' (.dct t (dPut kvs n k d)) a := by
  have zl : 100000 ≤ sizeLine := by decide
  unfold dKey at e
  unfold DictAt at hd
  split at hd
  · obtain ⟨qs, h1, h2, rfl⟩ := hd
    obtain ⟨kk, e1, rfl⟩ := Option.map_eq_some_iff.mp e
    have al : AL C Hs kN (fun q : Key × V => q.1) (fun q => q.2) kvs qs := al_of (g := keyD) (fun d k h => keyD_nk h) h2 hv
    have al2 : AL C Hs kN (fun q : Key × V => q.1) (fun q => q.2) (dPut kvs (kN kk) k d) (putK qs kk v) := al_put (kd := k) (d := d) (key := fun q : Key × V => q.1) (val := fun q => q.2) kN_inj (k := kk) (g := fun kv => if kv.1 = kk then (kv.1, v) else kv) (new := (kk, v)) (fun q => by split <;> rfl) (fun q hq => by rw [if_pos hq]; exact rv) (fun q hq => if_neg hq) (keyD_nk e1) rfl rv al
    have ll := al_len al
    refine ⟨_, _, .inl (.inl ⟨qs, kk, h1, key_val ry e1, by omega, rfl⟩), rfl, (putK qs kk v).map (·.2), ?_, ?_⟩
    · refine ⟨putK qs kk v, upd_same, al_key kN_inj (fun d k h => keyD_nk h) al2 fun p hp => ?_, rfl⟩
      rcases mem_dPut hp with ⟨q, hq, z⟩ | z
      · rw [z]; exact any_key h2 q hq
      · rw [z, e1]; rfl
    · exact al_val al2
  · obtain ⟨qs, h1, h2, rfl⟩ := hd
    obtain ⟨kk, e1, rfl⟩ := Option.map_eq_some_iff.mp e
    have al : AL C Hs tN (fun q : List Key × V => q.1) (fun q => q.2) kvs qs := al_of (g := keyT) (fun d k h => keyT_nk h) h2 hv
    have al2 : AL C Hs tN (fun q : List Key × V => q.1) (fun q => q.2) (dPut kvs (tN kk) k d) (putK qs kk v) := al_put (kd := k) (d := d) (key := fun q : List Key × V => q.1) (val := fun q => q.2) tN_inj (k := kk) (g := fun kv => if kv.1 = kk then (kv.1, v) else kv) (new := (kk, v)) (fun q => by split <;> rfl) (fun q hq => by rw [if_pos hq]; exact rv) (fun q hq => if_neg hq) (keyT_nk e1) rfl rv al
    have ll := al_len al
    have e1' := e1
    cases k <;> simp only [keyT] at e1 <;> try cases e1
    rename_i ds
    simp only [Rp] at ry
    obtain ⟨b, zs, rfl, hb, hz⟩ := ry
    refine ⟨_, _, .inl (.inr ⟨qs, kk, b, h1, rfl, by rw [← keys_val hz e1]; exact ex _ _ hb, by omega, rfl⟩), rfl, (putK qs kk v).map (·.2), ?_, ?_⟩
    · refine ⟨putK qs kk v, upd_same, al_key tN_inj (fun d k h => keyT_nk h) al2 fun p hp => ?_, rfl⟩
      rcases mem_dPut hp with ⟨q, hq, z⟩ | z
      · rw [z]; exact any_key h2 q hq
      · rw [z, e1']; rfl
    · exact al_val al2
  · obtain ⟨qs, h1, h2, rfl, h4⟩ := hd
    obtain ⟨kk, e1, e⟩ := Option.bind_eq_some_iff.mp e
    split at e
    · rename_i ks
      split at e
      · rename_i dp
        cases e
        have al : AL C Hs id (fun q : NK × Addr × V => q.1) (fun q => q.2.2) kvs qs := al_of (g := nkD) (fun d k h => h) h2 hv
        have ka0 := nkAt_of k y _ ry e1
        have ka := NkAt.mono ex _ _ ka0
        have : ∃ b, y = .ref b := by simp only [NkAt] at ka; obtain ⟨b, _, q, _⟩ := ka; exact ⟨b, q⟩
        obtain ⟨b, rfl⟩ := this
        have al2 : AL C Hs id (fun q : NK × Addr × V => q.1) (fun q => q.2.2) (dPut kvs (.tup ks) k d) (putN qs (.tup ks) b v) := al_put (kd := k) (d := d) (key := fun q : NK × Addr × V => q.1) (val := fun q => q.2.2) (f := id) (fun h => h) (k := .tup ks) (g := fun q => if q.1 = .tup ks then (q.1, q.2.1, v) else q) (new := (.tup ks, b, v)) (fun q => by split <;> rfl) (fun q hq => by rw [if_pos hq]; exact rv) (fun q hq => if_neg hq) e1 rfl rv al
        have ll := al_len al
        refine ⟨_, _, .inr ⟨qs, .tup ks, b, h1, fun q hq => ⟨NkAt.mono ex _ _ (h4 q hq).1, (h4 q hq).2⟩, rfl, ka, dp, by omega, rfl⟩, rfl, (putN qs (.tup ks) b v).map (·.2.2), ?_, ?_⟩
        · refine ⟨putN qs (.tup ks) b v, upd_same, al_key (g := nkD) (f := id) (fun h => h) (fun d k h => h) al2 fun p hp => ?_, rfl, fun q hq => ?_⟩
          · rcases mem_dPut hp with ⟨q, hq, z⟩ | z
            · rw [z]; exact any_key h2 q hq
            · rw [z, e1]; rfl
          · unfold putN at hq
            split at hq
            · obtain ⟨q0, hq0, rfl⟩ := List.mem_map.mp hq
              split
              · exact h4 q0 hq0
              · exact h4 q0 hq0
            · rcases List.mem_append.mp hq with hq | hq
              · exact h4 q hq
              · rw [List.mem_singleton.mp hq]; exact ⟨ka0, dp⟩
        · exact al_val al2
      · cases e
    · cases e
  · cases e
  · exact hd.elim
def ownD (env : SE) (i : Nat) : Option (Nat × List (D × D)) := match env[i]? with
  | some (some (.own (.dct t kvs))) => some (t, kvs)
  | some (some (.io (.dct t kvs))) => some (t, kvs)
  | _ => none
theorem Rep.ownD {C : Wd} {Hs H : Hp} {σ : L2.St} {env : SE} {i : Nat} {t : Nat} {kvs : List (D × D)} (r : Rep C Hs H σ env) (e : ownD env i = some (t, kvs)) : ∃ a b xs, env[i]? = some (some b) ∧ b.ow = true ∧ b.d = .dct t kvs ∧ σ[i]? = some (some (.ref a)) ∧ Hs a = none ∧ DictAt C H Hs a t (kvs.map Prod.fst) xs ∧ RpV C Hs kvs xs := by
  have go : ∀ (b : Bnd), env[i]? = some (some b) → b.ow = true → b.d = .dct t kvs → ∃ a xs, σ[i]? = some (some (.ref a)) ∧ Hs a = none ∧ DictAt C H Hs a t (kvs.map Prod.fst) xs ∧ RpV C Hs kvs xs := fun b h1 h2 h3 => by
    obtain ⟨a, ea, o⟩ := r.held h1 h2
    rw [h3] at o
    obtain ⟨xs, e1, e2⟩ := o.tr.flat (d := .dct t kvs) rfl
    exact ⟨a, xs, ea, o.out a ft_self, e1, e2⟩
  unfold VE.ownD at e
  split at e
  · rename_i he
    cases e
    obtain ⟨a, xs, q⟩ := go _ he rfl rfl
    exact ⟨a, _, xs, he, rfl, rfl, q⟩
  · rename_i he
    cases e
    obtain ⟨a, xs, q⟩ := go _ he rfl rfl
    exact ⟨a, _, xs, he, rfl, rfl, q⟩
  · cases e
section
variable {X : Cx} {W : WX} {p q : M Val} {st : Stmt}
theorem set_any (hu : X.A.units + 65 < cLine) : PSet X (fun x y v H Q => rSetL x y v H Q ∨ rDset (wdOf X) x y v H Q) := by
  intro pins s σ H o i v ov iv u Q I ro ri rv h
  rcases h with h | h
  · exact set_list pins s σ H o i v ov iv u Q I ro ri rv h
  · exact set_dct (by omega) pins s σ H o i v ov iv u Q I ro ri rv h
def stU (i : Nat) (d : D) (k : Val) : SP := fun env => match ownD env i with
  | some (t, kvs) => match k with
    | .fz kd => (dKey t kd).bind fun n => if kvs.length < 100000 then some (.nx (putE env i (.dct t (dPut kvs n kd d)))) else none
    | _ => none
  | none => stK i d k env
def stW (i : Nat) (q : M Val) (v : Val) : SP := fun env => match v with
  | .fz d => match env[i]? with
    | some (some b) => if b.ow = true then sWith q (stU i d) env else none
    | _ => none
  | _ => none
def sStU (i : Nat) (p q : M Val) : SP := sWith p (stW i q)
theorem s_stU {i : Nat} (h : PS X st (tAsg (tX (wdOf X) W p) (gSub (tVar i) (tX (wdOf X) W q) (fun x y v H Q => rSetL x y v H Q ∨ rDset (wdOf X) x y v H Q)))) : PS X st (tS (wdOf X) W (sStU i p q)) :=
  ps_weak h fun En σ H ⟨env, Hs, r1, rp, e, fin⟩ => by
    refine Tm.with rp e fin fun va env1 v H1 Hs1 hp st rv e1 => ?_
    unfold stW at e1
    split at e1
    · rename_i d
      split at e1
      · rename_i b0 hb0
        split at e1
        · rename_i ow0
          obtain ⟨a, ea, _⟩ := st.rep.held hb0 ow0
          refine ⟨_, ea, ?_⟩
          refine Tm.with st.rep e1 (fin.later st) fun kk env2 w H2 Hs2 hq st2 rk e2 => ?_
          unfold stU at e2
          split at e2
          · rename_i t kvs hD
            obtain ⟨a', b, xs, eb, ob, bd, ea', n, hd, hv⟩ := st2.rep.ownD hD
            rw [ea] at ea'
            cases ea'
            split at e2
            · rename_i kd
              obtain ⟨nn, en, e2⟩ := Option.bind_eq_some_iff.mp e2
              split at e2
              · rename_i hl
                cases e2
                obtain ⟨H', o, dp, eH, own⟩ := dput_of st2.rep.ex n hd hv (show Rp (wdOf X) Hs2 kd w from rk) (Rp.mono st2.ex _ _ rv) en hl
                refine .inr ⟨a, H', rfl, dp, ?_⟩
                subst eH
                have sw : Stp (wdOf X) Hs2 H2 σ env2 Hs2 (upd H2 a o) σ (putE env2 i (.dct t (dPut kvs nn kd d))) := by
                  unfold putE
                  rw [eb]
                  exact Stp.write st2.rep eb ob ea n own
                exact fin σ _ Hs2 ((st.trans st2).trans sw)
              · cases e2
            · cases e2
          · unfold stK at e2
            split at e2
            · rename_i j
              cases h1 : ownL env2 i with
              | none => rw [h1] at e2; cases e2
              | some ds =>
                rw [h1, Option.bind_some] at e2
                obtain ⟨a', xs, b, eb, ob, bd, ea', n, hax, hx⟩ := st2.rep.ownL h1
                rw [ea] at ea'
                cases ea'
                cases hm : ixN ds.length j with
                | none => rw [hm] at e2; cases e2
                | some m =>
                  rw [hm] at e2
                  cases e2
                  have ew : w = .int j := by simpa [RV, Rp] using rk
                  refine .inl ⟨a, xs, j, m, rfl, ew, hax, by rw [hx.length]; exact hm, ?_⟩
                  have sw : Stp (wdOf X) Hs2 H2 σ env2 Hs2 (upd H2 a (.lst (xs.set m v))) σ (putE env2 i (.lst (ds.set m d))) := by
                    unfold putE
                    rw [eb]
                    exact Stp.write st2.rep eb ob ea n ⟨_, upd_same, hx.set m (Rp.mono st2.ex _ _ rv)⟩
                  exact fin σ _ Hs2 ((st.trans st2).trans sw)
            · cases e2
        · cases e1
      · cases e1
    · cases e1
def xDn (t : Nat) : M Val := fun env => some (.ok (.fr (.dct t [])) env)
theorem x_dn0 {pos : Pos} : PE X (.Dict [] [] pos) (tX (wdOf X) W (xDn 0)) := pe_weak pe_dnewK fun σ H Q ⟨env, Hs, r1, rp, e, fin⟩ => by
  cases e
  exact fun p hp => fin.op (Stp.refl rp) (Grow.new rp.ex hp) ⟨p, rfl, hp, xBack rp.ex hp, [], ⟨[], upd_same, rfl, rfl⟩, by simp only [RpV]⟩
theorem x_dn1 {pos : Pos} : PE X (.Dict [] [] pos) (tX (wdOf X) W (xDn 1)) := pe_weak pe_dnewT fun σ H Q ⟨env, Hs, r1, rp, e, fin⟩ => by
  cases e
  exact fun p hp => fin.op (Stp.refl rp) (Grow.new rp.ex hp) ⟨p, rfl, hp, xBack rp.ex hp, [], ⟨[], upd_same, rfl, rfl⟩, by simp only [RpV]⟩
theorem x_dn2 {pos : Pos} : PE X (.Dict [] [] pos) (tX (wdOf X) W (xDn 2)) := pe_weak pe_dnewN fun σ H Q ⟨env, Hs, r1, rp, e, fin⟩ => by
  cases e
  exact fun p hp => fin.op (Stp.refl rp) (Grow.new rp.ex hp) ⟨p, rfl, hp, xBack rp.ex hp, [], ⟨[], upd_same, rfl, rfl, fun q hq => by cases hq⟩, by simp only [RpV]⟩
end
end VE
namespace VE
open PySem PySem.Spec PyProof.Rows L2 PySem.W
def dispV (kd : D) (b : Val) : M Val := fun env => match b with
  | .fz d => (keyD kd).map fun _ => .ok (.fr (.dct 0 [(kd, d)])) env
  | _ => none
def dispK (q : M Val) (a : Val) : M Val := match a with
  | .fz kd => q.bind (dispV kd)
  | _ => fun _ => none
def xDisp1 (p q : M Val) : M Val := p.bind (dispK q)
section
variable {X : Cx} {W : WX} {k v : Expr} {p q : M Val} {pos : Pos}
theorem x_disp1 (hk : PE X k (tX (wdOf X) W p)) (hv : PE X v (tX (wdOf X) W q)) : PE X (.Dict [some k] [v] pos) (tX (wdOf X) W (xDisp1 p q)) :=
  pe_weak (pe_disp (trs := [(tX (wdOf X) W p, tX (wdOf X) W q)]) (pps_cons hk hv pps_nil) rfl rfl (by simp) (by simp)) fun σ H Q ⟨env, Hs, r1, rp, e, fin⟩ => by
    intro l hl
    have g0 := Grow.new (o := HO.dK []) rp.ex hl
    have s0 := Stp.grow rp g0
    have n0 : Hs l = none := xBack rp.ex hl
    have w0 : ¬ Own (upd H l (.dK [])) σ env l := fun z => by
      obtain ⟨_, o, q⟩ := Own.there rp ((Own.grow rp g0 l).mp z)
      rw [hl] at q; cases q
    refine Tm.bindAt s0.rep e (laterX s0 fin) fun a env1 x H1 Hs1 hp st rv e1 => ?_
    unfold dispK at e1
    split at e1
    · rename_i kd
      have st1 := s0.trans st
      refine Tm.bindAt st1.rep e1 (laterX st1 fin) fun b env2 y H2 Hs2 hq st2 rv2 e2 => ?_
      have st2' := st1.trans st2
      have k2 := (st.trans st2).fr l _ upd_same n0 w0
      unfold dispV at e2
      split at e2
      · rename_i d
        cases ek : keyD kd with
        | none => rw [ek] at e2; cases e2
        | some kk =>
          rw [ek] at e2
          cases e2
          have rk : Rp (wdOf X) Hs2 kd x := Rp.mono st2.ex _ _ rv
          refine ⟨k2.1, [(kk, y)], ?_, by simp, ?_⟩
          · rw [key_val rk ek]; rfl
          · have sb := st2'.bump (o := HO.dK (mergeK [] [(kk, y)])) hl k2.2.1 k2.2.2
            have own : OwnAt (wdOf X) Hs2 (upd H2 l (.dK (mergeK [] [(kk, y)]))) (.dct 0 [(kd, d)]) l := ⟨[y], ⟨[(kk, y)], upd_same, by simp only [List.map_cons, List.map_nil, ek], rfl⟩, by simp only [RpV]; exact ⟨y, [], rfl, rv2, rfl⟩⟩
            refine fin _ _ Hs2 sb ⟨l, rfl, Held.one own k2.2.1, fun z hz => ?_⟩
            rw [own.tree.2] at hz
            cases List.mem_singleton.mp hz
            exact ⟨Own.bump st2'.rep k2.2.1 k2.2.2, fun o h1 _ => by rw [hl] at h1; cases h1⟩
      · cases e2
    · cases e1
end
end VE
namespace PySem.W
open PySem PySem.Spec PySem.Calls PyProof.Rows
section
variable {prog : Program} {w : World} {A : Around} {E : Value → Shared → Prop} {s : Shared} {K : Frag} {x D : Addr} {ox : Obj} {od : Option Obj}
theorem ve_class {Q : Option Value → Shared → Prop} (T : L2.ExcC K D) (X : K.In s.heap) (I : InstAt s.heap x ox D od) (h : Q (some (.ref D)) { s with toks := s.toks + 1 }) : wpAny (model prog w) A (getAttr? (.ref x) "__class__") Q E s := by
  have hf : findObj K D od "__class__" = some (.bind (.builtin "getset_descriptor.__get__") (.builtin "object.__class__")) := by
    obtain ⟨cd, hc, _⟩ := any_some T.hd
    unfold findObj
    rw [hc, Option.bind_some, T.ha, Option.bind_some]; simp [T.hn, T.ht]
  obtain ⟨hp, g, d, t, os⟩ := s
  have L0 := I.type (M := model prog w); have L1 := looks_findIn (M := model prog w) X T.hg; have L2 := looks_findIn (M := model prog w) X T.hk; have L3 := looks_find (M := model prog w) X I hf
  have e2 : (Value.builtin "BaseException.__getattribute__" == Value.builtin "object.__getattribute__") = false := by decide +kernel
  have e1 : (onTheHeap (Value.ref D) && Value.builtin "BaseException.__getattribute__" == Value.builtin "object.__getattribute__") = false := by rw [e2]; rfl
  unfold getAttr? getAttrBy? getAttrBy
  refine wpAny_bind (wpAny_mkText (wpAny_bind (wpAny_attempt (wpAny_holding (wpAny_bind (L0.at (wpAny_bind (L1.at (show wpAny _ _ (if (onTheHeap (Value.ref D) && Value.builtin "BaseException.__getattribute__" == Value.builtin "object.__getattribute__") = true then _ else _) _ _ _ from ?_)))))))))
  rw [e1, if_neg Bool.false_ne_true]; unfold getAttrByItsOwn hookBefore
  refine wpAny_bind ?_; rw [if_pos (show onTheHeap (Value.ref D) = true from rfl)]
  refine L2.at (wpAny_bind (wpAny_attempt (wpAny_holding ?_)))
  unfold callGetattribute; rw [if_neg (show ¬ (false && onTheHeap (Value.builtin "BaseException.__getattribute__")) = true from Bool.false_ne_true)]
  unfold boundAndCalled; rw [PySem.F.excAttr_ValueError.ga.bind (.ref x)]
  refine wpAny_bind (wpAny_pure (show wpAny _ _ (call (.builtin "BaseException.__getattribute__") [.ref x, .str "__class__" t]) _ _ _ from wpAny_call (codeAny_call_builtin PySem.F.excAttr_ValueError.ga.plain PySem.F.entry_bexc_ga ?_)))
  refine @check_slot (model prog w) _ _ ⟨hp, g, d, t + 1, os⟩ "BaseException.__getattribute__" "BaseException" "__getattribute__" (.ref x) [.str "__class__" t] [] _ (by decide +kernel) (by decide +kernel) (L0.andThen (looks_subIn X T.hs)) (PySem.F.args_bexc_ga (.ref x) (.str "__class__" t)) ?_
  unfold Builtin.«object.__getattribute__»
  refine wpAny_bind (wpAny_of_eq (a := ((Value.ref x : Value), [Value.str "__class__" t])) (by first | rfl | (simp only [slotArgs]; rfl)) (wpAny_bind (wpAny_pure (wpAny_bind (L0.at (wpAny_bind (L3.at ?_)))))))
  refine (show wpAny _ _ (holding [Value.builtin "object.__class__"] (call (.builtin "getset_descriptor.__get__") [.builtin "object.__class__", .ref x, .ref D]) >>= ret) _ _ _ from wpAny_bind (wpAny_holding (wpAny_call (class_get (s := ⟨hp, g, d, t + 1, os⟩) (ox := ox) (od := od) X I T.hm (wpAny_pure ?_)))))
  show wpAny _ _ (handedOut (.ref D)) _ _ _; rw [handedOut_of (v := .ref D) rfl]
  first
    | exact wpAny_pure (wpAny_pure h)
    | exact wpAny_pure h
    | exact wpAny_pure (wpAny_bind (wpAny_pure (wpAny_pure h)))
theorem ve_kit (T : L2.ExcC K D) : KitX K (.ref x) (.ref D) (fun h => ∃ od, InstAt h x ox D od) where
  ty := fun _ _ _ ⟨_, I⟩ => I.type
  it := fun _ _ X _ => by
    obtain ⟨cd, hc, _⟩ := any_some T.hd
    unfold clsIn at hc
    split at hc
    · rename_i ho; intro A Q E s k q; unfold isType loadHead; exact wpAny_bind (wpAny_loadPart (k _ _ (X _ _ ho)) (wpAny_pure q))
    · cases hc
  ne := fun h tp dd its n sl X htp => (handS_kitx_exc (x := x) (ox := ox) T.hg T.hk T.hs T.hd T.ha T.hn T.ht T.hm).ne h tp dd its n sl X htp
  ca := fun X ⟨_, I⟩ k => ve_class T X I k
end
end PySem.W
namespace VE
open PySem PySem.Spec PyProof.Rows L2 PySem.W
structure ErrC (K : PySem.W.Frag) (mg : Str → Option Value) (fI : Addr) (c : Str) (Ca : Addr) : Prop where
  g : mg c = some (.ref Ca)
  ox : OexC K Ca
  ini : PySem.W.findIn K (.ref Ca) "__init__" = some (some (.ref fI))
  ty : PySem.W.typeIn K (.ref fI) = some (.type "function")
  val : PySem.W.findIn K (.ref Ca) "value" = some none
  xf : XfC K Ca
  is : ExcC K Ca
def spIni (K : PySem.W.Frag) : Sp := fun vs H Q _ => ∃ a C v, vs = [V.ref a, v] ∧ OexC K C ∧ PySem.W.findIn K (.ref C) "value" = some none ∧ H a = some (exo a C none) ∧ ∀ dx, H dx = none → dx ≠ a → Q .non (upd (upd H dx (exd dx [(("value" : Str), v)])) a (exo a C (some dx)))
theorem ok_ini {P : Program} {w : World} {K : PySem.W.Frag} {mg : Str → Option Value} {base : Heap} {x qual : Str} {st : Stmt} {f : Addr} {fd : FuncData} (F : Fun K x qual st f fd) {p1 p2 p3 p4 : Pos} (S : FnScope ["self", "value"] ["self", "value"] (defScope st)) (v0 : Vis (defScope st) "self") (v1 : Vis (defScope st) "value")
    (hb : defBody st = [.Assign [.Attribute (.Name "self" p1) "value" p2] (.Name "value" p3) p4]) : FnOk P w K mg base (L2.CX P w) 1 f fd ["self", "value"] (spIni K) := by
  refine F.okX S (fun vs H Q E ⟨a, C, v, e, _⟩ => by rw [e]; rfl) fun cdv A outer s H vs Q E hr ⟨a, C, v, e, ox, hv, ha, q⟩ => ⟨_, by
    rw [hb]
    exact pss_one (ps_ost (pe_var (i := 0) rfl v0) (pe_var (i := 1) rfl v1)), ?_⟩
  subst e
  exact ⟨v, rfl, .ref a, rfl, a, C, rfl, ox, hv, .inl ⟨ha, fun dx h1 h2 => q dx h1 h2⟩⟩
def raiseV (c : Str) (v : Val) : SP := fun env => match v with
  | .fz d => some (.exc c d env)
  | _ => none
def sRaise (c : Str) (p : M Val) : SP := sWith p (raiseV c)
section
variable {X : Cx} {W : WX} {e a b : Expr} {es : List Expr} {p q : M Val} {pa : M (List Val)} {pos pc pos2 : Pos}
theorem s_raise {c : Str} {fI Ca : Addr} {fd : FuncData} {k : Nat} (G : ErrC X.K X.mg fI c Ca) (F : FnOk X.prog X.w X.K X.mg X.base (L2.CX X.prog X.w) 1 fI fd ["self", "value"] (spIni X.K)) (hb : Binds X.K fd ["self", "value"] []) (hc : X.calm = true) (tk : Takes X W) (hr : Room k X.A) (hk : 2 ≤ k) (hg : Gl X c)
    (he : PE X e (tX (wdOf X) W p)) (hdb : (c == ("__debug__" : Str)) = false := by decide) (hst : starEach (e :: []) X.env = (false, eval e X.env) :: starEach [] X.env := by rfl) :
    PS X (.Raise (some (.Call (.Name c pc) [e] [] pos)) none pos2) (tS (wdOf X) W (sRaise c p)) :=
  ps_weak (ps_raise hc tk (pmk_oex (dvs := []) (ds := []) G.ox G.ini G.ty F (hr.mono hk) hb .nil passL hg G.g (pa_cons he pa_nil hst) hdb hst rfl)) fun En σ H ⟨env, Hs, r1, rp, e, fin⟩ => by
    refine Tm.with rp e fin fun va env1 v H1 Hs1 hp st rv e1 => ?_
    unfold raiseV at e1
    split at e1
    · rename_i d
      cases e1
      refine ⟨by simp, fun a0 ha0 => ⟨a0, Ca, v, rfl, G.ox, G.val, upd_same, fun dx hdx hne => ⟨rfl, dx, [(("value" : Str), v)], upd_same, ?_, ?_, ?_⟩⟩⟩
      · rw [upd_ne hne, upd_same]
      · rw [upd_ne hne] at hdx; exact hdx
      · have hd1 : H1 dx = none := by rw [upd_ne hne] at hdx; exact hdx
        have eH : upd (del (upd (upd (upd H1 a0 (exo a0 Ca none)) dx (exd dx [(("value" : Str), v)])) a0 (exo a0 Ca (some dx))) a0) dx (.xd [(("value" : Str), v)]) = upd H1 dx (.xd [(("value" : Str), v)]) := by
          funext x
          by_cases z : x = dx
          · rw [z, upd_same, upd_same]
          · rw [upd_ne z, upd_ne z]
            by_cases y : x = a0
            · rw [y, del_same, ha0]
            · rw [del_ne y, upd_ne y, upd_ne z, upd_ne y]
        rw [eH]
        have g := Grow.newF (o := HO.xd [(("value" : Str), v)]) st.rep.ex hd1
        exact fin (.ref Ca) (some dx) σ _ _ (st.trans (Stp.grow st.rep g)) ⟨Ca, dx, v, G.g, rfl, rfl, upd_same, Rp.mono g.ex _ _ rv⟩
    · cases e1
def extT (i : Nat) (a : Addr) (g : V) (t : TE) : TE := fun σ H Q => σ[i]? = some (some (.ref a)) ∧ t (σ ++ [some g]) H Q
def extA (i : Nat) (a : Addr) (g : V) (t : TA) : TA := fun σ H Q => σ[i]? = some (some (.ref a)) ∧ t (σ ++ [some g]) H Q
def extS (i : Nat) (a : Addr) (g : V) (t : TS) : TS := fun D σ H => σ[i]? = some (some (.ref a)) ∧ t { nx := fun s H' => ∀ r, s = r ++ [some g] → D.nx r H', rt := D.rt, bk := fun s H' => ∀ r, s = r ++ [some g] → D.bk r H', ct := fun s H' => ∀ r, s = r ++ [some g] → D.ct r H' } (σ ++ [some g]) H
abbrev errD (d : D) : D := .dct 3 [(.str "value", d)]
theorem Rep.ghost {C : Wd} {Hs H : Hp} {σ : L2.St} {env : SE} {d : D} {v : V} (r : Rep C Hs H σ env) (h : Rp C Hs d v) : Rep C Hs H (σ ++ [some v]) (env ++ [some (.fz d)]) := by
  have at_ : ∀ {i : Nat} {b : Bnd}, (env ++ [some (.fz d)])[i]? = some (some b) → (i < env.length ∧ env[i]? = some (some b) ∧ (σ ++ [some v])[i]? = σ[i]?) ∨ (i = env.length ∧ b = .fz d ∧ (σ ++ [some v])[i]? = some (some v)) := fun {i b} e => by
    by_cases z : i < env.length
    · rw [List.getElem?_append_left z] at e
      exact .inl ⟨z, e, List.getElem?_append_left (by rw [← r.len]; exact z)⟩
    · have y : i = env.length := by
        have := (List.getElem?_eq_some_iff.mp e).1
        rw [List.length_append] at this
        simp at this; omega
      subst y
      rw [List.getElem?_append_right (Nat.le_refl _)] at e
      simp at e
      refine .inr ⟨rfl, e.symm, ?_⟩
      rw [r.len, List.getElem?_append_right (Nat.le_refl _)]; simp
  have ow : ∀ {i : Nat} {b : Bnd}, (env ++ [some (.fz d)])[i]? = some (some b) → b.ow = true → env[i]? = some (some b) ∧ (σ ++ [some v])[i]? = σ[i]? := fun {i b} e h => by
    rcases at_ e with ⟨_, q1, q2⟩ | ⟨_, q, _⟩
    · exact ⟨q1, q2⟩
    · rw [q] at h; cases h
  refine ⟨r.ex, by rw [List.length_append, List.length_append, r.len]; rfl, fun i b e => ?_, fun i j bi bj a c x e1 e2 e3 e4 e5 e6 e7 e8 => ?_⟩
  · rcases at_ e with ⟨_, q1, q2⟩ | ⟨_, rfl, q2⟩
    · rw [q2]; exact r.at_ i b q1
    · exact ⟨v, q2, by unfold RB; rw [if_neg (by simp [Bnd.ow])]; exact h⟩
  · obtain ⟨p1, p2⟩ := ow e1 e3
    obtain ⟨q1, q2⟩ := ow e2 e4
    rw [p2] at e5
    rw [q2] at e6
    exact r.sep i j bi bj a c x p1 q1 e3 e4 e5 e6 e7 e8
theorem own_ghost {C : Wd} {Hs H : Hp} {σ : L2.St} {env : SE} {d : D} {v : V} (r : Rep C Hs H σ env) {x : Addr} (h : Own H (σ ++ [some v]) (env ++ [some (.fz d)]) x) : Own H σ env x := by
  obtain ⟨i, b, a, e1, e2, e3, e4⟩ := h
  by_cases z : i < env.length
  · rw [List.getElem?_append_left z] at e1
    rw [List.getElem?_append_left (by rw [← r.len]; exact z)] at e3
    exact ⟨i, b, a, e1, e2, e3, e4⟩
  · have y : i = env.length := by
      have := (List.getElem?_eq_some_iff.mp e1).1
      rw [List.length_append] at this
      simp at this; omega
    subst y
    rw [List.getElem?_append_right (Nat.le_refl _)] at e1
    simp at e1
    rw [← e1] at e2; cases e2
theorem Stp.ghost {C : Wd} {Hs0 H0 Hs H : Hp} {σ0 σ : L2.St} {env0 env : SE} {d : D} {v : V} (s : Stp C Hs0 H0 σ0 env0 Hs H σ env) (h : Rp C Hs d v) : Stp C Hs0 H0 σ0 env0 Hs H (σ ++ [some v]) (env ++ [some (.fz d)]) :=
  ⟨s.ex, s.rep.ghost h, fun a o h1 h2 h3 => by
    obtain ⟨k1, k2, k3⟩ := s.fr a o h1 h2 h3
    exact ⟨k1, k2, fun z => k3 (own_ghost s.rep z)⟩, fun i d' e => by
    by_cases z : i < env.length
    · rw [List.getElem?_append_left z] at e
      rw [List.getElem?_append_left (by rw [← s.rep.len]; exact z)]
      exact s.io i d' e
    · have y : i = env.length := by
        have := (List.getElem?_eq_some_iff.mp e).1
        rw [List.length_append] at this
        simp at this; omega
      subst y
      rw [List.getElem?_append_right (Nat.le_refl _)] at e
      simp at e⟩
theorem Stp.unghost {C : Wd} {Hs0 H0 Hs H : Hp} {σ0 σ : L2.St} {env0 env : SE} {v : Option V} (s : Stp C Hs0 H0 σ0 env0 Hs H (σ ++ [v]) env) : Stp C Hs0 H0 σ0 env0 Hs H σ env.dropLast := by
  have r := s.rep
  have hl : env.length = σ.length + 1 := by rw [r.len, List.length_append]; rfl
  have dr : ∀ {i : Nat} {b : Bnd}, env.dropLast[i]? = some (some b) → i < σ.length ∧ env[i]? = some (some b) ∧ (σ ++ [v])[i]? = σ[i]? := fun {i b} e => by
    have hi := (List.getElem?_eq_some_iff.mp e).1
    rw [List.length_dropLast] at hi
    have hi' : i < σ.length := by omega
    rw [List.getElem?_dropLast] at e
    rw [if_pos (by omega)] at e
    exact ⟨hi', e, List.getElem?_append_left hi'⟩
  refine ⟨s.ex, ⟨r.ex, by rw [List.length_dropLast]; omega, fun i b e => ?_, fun i j bi bj a c x e1 e2 e3 e4 e5 e6 e7 e8 => ?_⟩, fun a o h1 h2 h3 => ?_, fun i d' e => ?_⟩
  · obtain ⟨_, q1, q2⟩ := dr e
    rw [← q2]; exact r.at_ i b q1
  · obtain ⟨_, p1, p2⟩ := dr e1
    obtain ⟨_, q1, q2⟩ := dr e2
    exact r.sep i j bi bj a c x p1 q1 e3 e4 (by rw [p2]; exact e5) (by rw [q2]; exact e6) e7 e8
  · obtain ⟨k1, k2, k3⟩ := s.fr a o h1 h2 h3
    refine ⟨k1, k2, fun ⟨i, b, c, e1, e2, e3, e4⟩ => k3 ?_⟩
    obtain ⟨_, q1, q2⟩ := dr e1
    exact ⟨i, b, c, q1, e2, by rw [q2]; exact e3, e4⟩
  · obtain ⟨_, q1, q2⟩ := dr e
    rw [← q2]; exact s.io i d' q1
theorem Stp.any {C : Wd} {Hs0 H0 Hs H : Hp} {σ0 σ : L2.St} {env0 env : SE} {i : Nat} {x : Option V} (s : Stp C Hs0 H0 σ0 env0 Hs H σ (env.set i none)) : Stp C Hs0 H0 σ0 env0 Hs H (σ.set i x) (env.set i none) := by
  have r := s.rep
  have ne : ∀ {j : Nat} {b : Bnd}, (env.set i none)[j]? = some (some b) → (σ.set i x)[j]? = σ[j]? := fun {j b} e => by
    rcases set_at e with ⟨_, w, _⟩ | ⟨z, _⟩
    · cases w
    · rw [List.getElem?_set_ne (Ne.symm z)]
  refine ⟨s.ex, ⟨r.ex, by have := r.len; simpa using this, fun j b e => by rw [ne e]; exact r.at_ j b e, fun j k bj bk a c y e1 e2 e3 e4 e5 e6 e7 e8 => r.sep j k bj bk a c y e1 e2 e3 e4 (by rw [← ne e1]; exact e5) (by rw [← ne e2]; exact e6) e7 e8⟩, fun a o h1 h2 h3 => ?_, fun j d' e => by rw [ne e]; exact s.io j d' e⟩
  obtain ⟨k1, k2, k3⟩ := s.fr a o h1 h2 h3
  exact ⟨k1, k2, fun ⟨j, b, c, e1, e2, e3, e4⟩ => k3 ⟨j, b, c, e1, e2, by rw [← ne e1]; exact e3, e4⟩⟩
def tryOut (i : Nat) (r : SOut) : Option SOut := match r with
  | .nx e => some (.nx (e.dropLast.set i none))
  | .bk e => some (.bk (e.dropLast.set i none))
  | .ct e => some (.ct (e.dropLast.set i none))
  | .rt (.fz d) e => some (.rt (.fz d) e.dropLast)
  | _ => none
def sTry (i : Nat) (catches : Str → Option Bool) (body : SP) (suite : Str → SP) : SP := fun env => match body env with
  | some (.exc c d e) => match catches c with
    | some true => if i < e.length then (suite c (e.set i none ++ [some (.fz (errD d))])).bind (tryOut i) else none
    | some false => some (.exc c d e)
    | none => none
  | r => r
theorem FinS.unghost {C : Wd} {W : WX} {Hs H : Hp} {σ : L2.St} {env : SE} {D : Ends} {i : Nat} {r r' : SOut} {g : V} {Wn : WX} (fin : FinS C W Hs H σ env D r') (e : tryOut i r = some r') :
    FinS C Wn Hs H σ env { nx := fun s H' => ∀ t, s = t ++ [some g] → D.nx (t.set i none) H', rt := D.rt, bk := fun s H' => ∀ t, s = t ++ [some g] → D.bk (t.set i none) H', ct := fun s H' => ∀ t, s = t ++ [some g] → D.ct (t.set i none) H' } r := by
  have wipe : ∀ {Hs' H' : Hp} {t : L2.St} {e : SE}, Stp C Hs H σ env Hs' H' (t ++ [some g]) e → Stp C Hs H σ env Hs' H' (t.set i none) (e.dropLast.set i none) := fun s => ((s.unghost).trans (Stp.forget s.unghost.rep i)).any
  cases r with
  | nx e1 => cases e; exact fun s H' Hs' st t et => by subst et; exact fin _ H' Hs' (wipe st)
  | bk e1 => cases e; exact fun s H' Hs' st t et => by subst et; exact fin _ H' Hs' (wipe st)
  | ct e1 => cases e; exact fun s H' Hs' st t et => by subst et; exact fin _ H' Hs' (wipe st)
  | exc c d e1 => cases e
  | rt v e1 =>
    cases v with
    | fr d => cases e
    | bor j => cases e
    | fz d =>
      cases e
      intro x s H' Hs' st rv
      by_cases z : s = []
      · subst z
        have : e1 = [] := List.length_eq_zero_iff.mp st.rep.len
        subst this
        exact fin x [] H' Hs' st rv
      · have es : s = s.dropLast ++ [s.getLast z] := (List.dropLast_concat_getLast z).symm
        rw [es] at st
        exact fin x _ H' Hs' st.unghost rv
theorem s_try {x n : Str} {i : Nat} {cv : Value} {body suite : List Stmt} {b₀ : Stmt} {np pos' : Pos} {catches : Str → Option Bool} {pb : SP} {ps : Str → SP} (hs : X.stack = X.env :: X.outer) (hf : X.env.frame = some X.env.locals) (hN : X.N.Nodup) (hi : X.N[i]? = some n) (hln : X.env.kindOf n = some .local) (hc : Names X x cv) (tk : Takes X W)
    (hcat : ∀ c b Ca, catches c = some b → X.mg c = some (.ref Ca) → PySem.W.exmOne X.K (.ref Ca) cv = some b)
    (hb : ∀ (W' : WX) (pn : List (Addr × Obj)) (xe : Value → Shared → Prop), Takes (X.tr pn xe) W' → PSs (X.tr pn xe) body (tS (wdOf X) W' pb))
    (hsu : ∀ (c : Str) (Ca : Addr), catches c = some true → X.mg c = some (.ref Ca) → ∀ (a dd : Addr) (oe : Obj) (pn : List (Addr × Obj)), Zc (.ref Ca) (some dd) oe → (∃ vs, oe.data = .fields vs) → PSs (X.suite a ((a, oe) :: pn)) (b₀ :: suite) (extS i a (.ref dd) (tS (wdOf X) (fun _ _ _ _ => True) (ps c)))) :
    PS X (.Try body [.ExceptHandler (some (.Name x np)) (some n) (b₀ :: suite) pos'] [] [] pos) (tS (wdOf X) W (sTry i catches pb ps)) :=
  ps_weak (ps_try_as (tb := fun W' => tS (wdOf X) W' pb) (ts := fun a cls d D σ H => ∃ c Ca dd, catches c = some true ∧ X.mg c = some (.ref Ca) ∧ cls = .ref Ca ∧ d = some dd ∧ extS i a (.ref dd) (tS (wdOf X) (fun _ _ _ _ => True) (ps c)) D σ H) (Wout := W) hs hf hN hi hln hc tk (fun W' pn xe tk' _ => hb W' pn xe tk')
    (fun a oe cls d pn hz hv => ⟨fun pins s σ H D I ⟨c, Ca, dd, h1, h2, h3, h4, h5⟩ => by
      subst h3; subst h4
      exact (hsu c Ca h1 h2 a dd oe pn hz hv).run pins s σ H D I h5⟩)) fun En σ H ⟨env, Hs, r1, rp, e, fin⟩ => by
    unfold sTry at e
    cases hp : pb env with
    | none => rw [hp] at e; cases e
    | some o =>
      rw [hp] at e
      refine ⟨env, Hs, o, rp, hp, ?_⟩
      cases o with
      | nx e1 => cases e; exact fin
      | rt v e1 => cases e; exact fin
      | bk e1 => cases e; exact fin
      | ct e1 => cases e; exact fin
      | exc c d e1 =>
        intro cls od σ1 H1 Hs1 st ⟨Ca, dd, v, g1, g2, g3, g4, g5⟩
        subst g2; subst g3
        cases hcc : catches c with
        | none => simp only [hcc] at e; cases e
        | some b =>
          refine ⟨b, hcat c b Ca hcc g1, fun hbt a ha => ?_, fun hbf => ?_⟩
          · subst hbt
            simp only [hcc] at e
            split at e
            case isFalse => cases e
            rename_i hlt
            obtain ⟨r2, e2, e3⟩ := Option.bind_eq_some_iff.mp e
            have st2 : Stp (wdOf X) Hs H σ env Hs1 H1 (σ1.set i (some (.ref a))) (e1.set i none) := (st.trans (Stp.forget st.rep i)).any
            have rg : Rp (wdOf X) Hs1 (errD d) (.ref dd) := by
              simp only [Rp]
              exact ⟨dd, [v], rfl, ⟨v, g4, rfl, rfl⟩, by simp only [RpV]; exact ⟨v, [], rfl, g5, rfl⟩⟩
            have st3 := st2.ghost rg
            refine ⟨c, Ca, dd, hcc, g1, rfl, rfl, ?_, e1.set i none ++ [some (.fz (errD d))], Hs1, r2, st3.rep, e2, ?_⟩
            · exact List.getElem?_set_self (by rw [← st.rep.len]; exact hlt)
            · exact FinS.later st3 (FinS.unghost fin e3)
          · subst hbf
            simp only [hcc] at e
            cases e
            exact fin (.ref Ca) (some dd) σ1 H1 Hs1 st ⟨Ca, dd, v, g1, rfl, rfl, g4, g5⟩
end
end VE
namespace VE
open PySem PySem.Spec PyProof.Rows L2 PySem.W
def ghostD (env : SE) : Option D := match env.getLast? with
  | some (some (.fz (.dct 3 [(_, d)]))) => some d
  | _ => none
theorem Rep.ghostD {C : Wd} {Hs H : Hp} {σ : L2.St} {env : SE} {d : D} {dd : Addr} (r : Rep C Hs H (σ ++ [some (.ref dd)]) env) (e : ghostD env = some d) : ∃ u, Hs dd = some (.xd [(("value" : Str), u)]) ∧ Rp C Hs d u := by
  unfold VE.ghostD at e
  split at e
  · rename_i k d' hg
    cases e
    have hl : env.length = σ.length + 1 := by rw [r.len, List.length_append]; rfl
    have ha : env[σ.length]? = some (some (.fz (.dct 3 [(k, d)]))) := by
      rw [List.getLast?_eq_getElem?, hl] at hg
      simpa using hg
    obtain ⟨v, ev, q⟩ := r.fz ha
    rw [List.getElem?_append_right (Nat.le_refl _)] at ev
    simp at ev
    subst ev
    simp only [Rp] at q
    obtain ⟨a, xs, ea, ⟨u, h1, _, rfl⟩, h3⟩ := q
    cases ea
    simp only [RpV] at h3
    obtain ⟨v, t, e2, h4, _⟩ := h3
    cases e2
    exact ⟨u, h1, h4⟩
  · cases e
def xEv : M Val := fun env => (ghostD env).map fun d => .ok (.fz d) env
def xIsE (b : Bool) : M Val := fun env => (ghostD env).map fun _ => .ok (.fz (.bl b)) env
def rIsX (K : PySem.W.Frag) (D a dd : Addr) : List V → Hp → VK → Prop := fun xs H Q => ∃ (y : Addr) (fs : List (Str × V)) (b : Bool), xs = [.ref a, .ref y] ∧ H dd = some (.xd fs) ∧ PySem.W.kitOne K (.ref D) (.ref y) = some b ∧ Q (.bl b) H
section
variable {X : Cx} {W : WX} {a dd Ca : Addr} {oe : Obj} {pn : List (Addr × Obj)} {i : Nat} {g v : V} {e b : Expr} {es : List Expr} {p q : M Val} {pa : M (List Val)} {pos p0 p1 p2 : Pos}
theorem call_isX (T : ExcC X.K Ca) (hz : Zc (.ref Ca) (some dd) oe) (hf : ∃ vs, oe.data = .fields vs) : CallR (X.suite a ((a, oe) :: pn)) (.builtin "isinstance") (rIsX X.K Ca a dd) := by
  intro pins s σ H xs us Q I r h
  obtain ⟨y, fs, b, rfl, hd, e, q⟩ := h
  rcases r with _ | ⟨rx, r⟩
  rcases r with _ | ⟨rt, r⟩
  cases r; cases rx; cases rt
  obtain ⟨ha, _⟩ := I.pin (a, oe) (List.mem_append_left _ List.mem_cons_self)
  obtain ⟨vs, hv⟩ := hf
  have hx : ObjOk X.prog X.w H s.heap dd (.xd fs) := I.hok dd _ hd
  obtain ⟨mA, hns, hr⟩ := hx
  obtain ⟨od, ho, hl⟩ := lookIn_ns hns
  have J : PySem.W.InstAt s.heap a oe Ca (some od) := ⟨ha, hz.1, by unfold PySem.W.notCls; rw [hv] <;> rfl, by rw [hz.2]; exact ho⟩
  exact PySem.W.kia_one (ve_kit T) I.kIn ⟨_, J⟩ e (fun z => nomatch z) fun tk => ⟨.bl b, H, I.kept (t' := tk) fun _ _ z => z, rfl, q⟩
theorem e_c {d : D} (h : PE X e (tC v)) (hd : ∀ H, Rp (wdOf X) H d v) : PE X e (extT i a g (tX (wdOf X) W (xc d))) := pe_weak h fun σ H Q ⟨_, env, Hs, r, rp, e, fin⟩ => by
  cases e
  exact fin v H Hs (Stp.refl rp) (hd Hs)
theorem e_int {j : Int} {k} : PE X (.Constant (.int j) k pos) (extT i a g (tX (wdOf X) W (xc (.int j)))) := e_c pe_int fun _ => by simp only [Rp]
theorem e_bl {j : Bool} {k} : PE X (.Constant (.bool j) k pos) (extT i a g (tX (wdOf X) W (xc (.bl j)))) := e_c pe_bl fun _ => by simp only [Rp]
theorem e_non {k} : PE X (.Constant .none k pos) (extT i a g (tX (wdOf X) W (xc .non))) := e_c pe_non fun _ => by simp only [Rp]
theorem e_str {j : Str} {k} : PE X (.Constant (.str j) k pos) (extT i a g (tX (wdOf X) W (xc (.str j)))) := e_c pe_str fun _ => by simp only [Rp]
theorem e_ev (T : XfC X.K Ca) (hno : PySem.W.findIn X.K (.ref Ca) "value" = some none) (hz : Zc (.ref Ca) (some dd) oe) (hf : ∃ vs, oe.data = .fields vs) (he : PE (X.suite a ((a, oe) :: pn)) e (tVar i)) (hb : attributeBase e "value" X.env (eval e X.env) = eval e X.env := by rfl) :
    PE (X.suite a ((a, oe) :: pn)) (.Attribute e "value" pos) (extT i a (.ref dd) (tX (wdOf X) W xEv)) :=
  pe_weak (pe_xf T hno hz hf he hb) fun σ H Q ⟨hi, env, Hs, r, rp, e, fin⟩ => by
    unfold xEv at e
    obtain ⟨d, hg, rfl⟩ := Option.map_eq_some_iff.mp e
    obtain ⟨u, h1, h2⟩ := rp.ghostD hg
    exact ⟨_, hi, rfl, rfl, dd, _, u, rfl, rp.ex _ _ h1, rfl, fin u H Hs (Stp.refl rp) h2⟩
theorem e_is {y : Str} {Cy : Addr} {t : Bool} (T : ExcC X.K Ca) (hz : Zc (.ref Ca) (some dd) oe) (hf : ∃ vs, oe.data = .fields vs) (hg : Gl X "isinstance") (hm : X.mg "isinstance" = none) (he : PE (X.suite a ((a, oe) :: pn)) e (tVar i)) (hgy : Gl X y) (hmy : X.mg y = some (.ref Cy)) (hk : PySem.W.kitOne X.K (.ref Ca) (.ref Cy) = some t)
    (hdb : (y == ("__debug__" : Str)) = false := by decide) (h1 : starEach [e, .Name y p1] X.env = (false, eval e X.env) :: starEach [.Name y p1] X.env := by rfl) (h2 : starEach [.Name y p1] X.env = (false, eval (.Name y p1) X.env) :: starEach [] X.env := by rfl) (hpl : (backTo pos (starEach [.Name y p1] X.env)).any (·.1) = false := by rfl) :
    PE (X.suite a ((a, oe) :: pn)) (.Call (.Name "isinstance" p0) [e, .Name y p1] [] pos) (extT i a (.ref dd) (tX (wdOf X) W (xIsE t))) :=
  pe_weak (pe_callB (call_isX T hz hf) (X := X.suite a ((a, oe) :: pn)) hg hm (show bootBuiltins "isinstance" = some (.builtin "isinstance") from PyProof.Rows.Boot.«isinstance») (pa_cons he (pa_cons (pe_glob (v := .ref Cy) hgy hmy rfl hdb) pa_nil h2) h1) (by decide) (by decide) h1 hpl) fun σ H Q ⟨hi, env, Hs, r, rp, e, fin⟩ => by
    unfold xIsE at e
    obtain ⟨d, hg, rfl⟩ := Option.map_eq_some_iff.mp e
    obtain ⟨u, h1, h2⟩ := rp.ghostD hg
    exact ⟨_, hi, Cy, _, t, rfl, rp.ex _ _ h1, hk, fin (.bl t) H Hs (Stp.refl rp) (by simp [RV, Rp])⟩
theorem e_nil : PA X [] (extA i a g (tA (wdOf X) W aNil)) := pa_weak pa_nil fun σ H Q ⟨_, env, Hs, r1, rp, e, fin⟩ => by
  cases e
  exact fin [] H Hs (Stp.refl rp) (by simp only [RVs])
theorem e_cons (ha : PE X e (extT i a g (tX (wdOf X) W p))) (hr : PA X es (extA i a g (tA (wdOf X) W pa))) (hs : starEach (e :: es) X.env = (false, eval e X.env) :: starEach es X.env := by rfl) : PA X (e :: es) (extA i a g (tA (wdOf X) W (aCons p pa))) :=
  pa_weak (pa_cons ha hr hs) fun σ H Q ⟨hi, env, Hs, r1, rp, e, fin⟩ => ⟨hi, by
    refine Tm.bindAt rp e fin fun va env1 v H1 Hs1 hp st rv e1 => ?_
    cases va with
    | fr d => cases e1
    | fz d =>
      refine ⟨hi, Tm.bindAt st.rep e1 (laterA st fin) fun vs env2 us H2 Hs2 hq st2 rv2 e2 => ?_⟩
      cases e2
      exact fin _ H2 Hs2 (st.trans st2) ⟨_, _, rfl, Rp.mono st2.ex _ _ rv, rv2⟩
    | bor k =>
      refine ⟨hi, Tm.bindAt st.rep e1 (laterA st fin) fun vs env2 us H2 Hs2 hq st2 rv2 e2 => ?_⟩
      cases e2
      exact fin _ H2 Hs2 (st.trans st2) ⟨_, _, rfl, rv, rv2⟩⟩
theorem e_lst (ha : PA X es (extA i a g (tA (wdOf X) W pa))) : PE X (.List es pos) (extT i a g (tX (wdOf X) W (xLst pa))) :=
  pe_weak (pe_lst ha) fun σ H Q ⟨hi, env, Hs, r1, rp, e, fin⟩ => ⟨hi, by
    refine Tm.bindAt rp e fin fun vs env1 us H1 Hs1 hp st rv e1 => ?_
    cases hf : fzs vs with
    | none => rw [hf] at e1; cases e1
    | some ds =>
      rw [hf, Option.bind_some] at e1
      split at e1
      · rename_i hl
        cases e1
        have rl := RVs.fzs rv hf
        refine ⟨size_ok (by rw [rl.length]; exact hl), fun p hp => ?_⟩
        exact fin.op st (Grow.new (o := HO.lst us) st.rep.ex hp) ⟨p, rfl, hp, xBack st.rep.ex hp, us, upd_same, rl⟩
      · cases e1⟩
theorem e_tup {k} (ha : PA X es (extA i a g (tA (wdOf X) W pa))) : PE X (.Tuple es k pos) (extT i a g (tX (wdOf X) W (xTup pa))) :=
  pe_weak (pe_tup ha) fun σ H Q ⟨hi, env, Hs, r1, rp, e, fin⟩ => ⟨hi, by
    refine Tm.bindAt rp e fin fun vs env1 us H1 Hs1 hp st rv e1 => ?_
    cases hf : fzs vs with
    | none => rw [hf] at e1; cases e1
    | some ds =>
      rw [hf, Option.bind_some] at e1
      split at e1
      · rename_i hl
        cases e1
        have rl := RVs.fzs rv hf
        refine ⟨size_ok (by rw [rl.length]; exact hl), fun p hp => ?_⟩
        have gg := Grow.newF (o := HO.tup us) st.rep.ex hp
        refine fin.op st gg ?_
        show Rp _ _ (.tup ds) _
        simp only [Rp]
        exact ⟨p, us, rfl, upd_same, RpL.mono gg.ex _ _ rl⟩
      · cases e1⟩
def sSetE (j : Nat) (p : M Val) : SP := sWith p fun v env => if j + 1 < env.length then (stow j v env).map .nx else none
theorem e_set {j : Nat} {x : Str} {pos' : Pos} (hN : X.N.Nodup) (hi : X.N[j]? = some x) (hx : Loc X.env.scope x) (he : PE X e (extT i a g (tX (wdOf X) W p))) (hs : swapsWith e (some (.Name x pos')) pos.line X.env = pure false := by rfl) (hf : X.fn x = true ∨ X.env.scope.names.lookup x = some .local := by first | exact .inl rfl | exact .inr rfl | assumption) :
    PS X (.Assign [.Name x pos'] e pos) (extS i a g (tS (wdOf X) W (sSetE j p))) :=
  ps_weak (ps_set hN hi hx he hs hf) fun D σ H ⟨hia, env, Hs, r1, rp, e, fin⟩ => ⟨hia, by
    refine Tm.with rp e fin fun va env1 v H1 Hs1 hp st rv e1 => ?_
    split at e1
    · rename_i hl
      cases hw : stow j va env1 with
      | none => rw [hw] at e1; cases e1
      | some env2 =>
        rw [hw] at e1
        cases e1
        have hσ : j < σ.length := by
          have := st.rep.len
          rw [List.length_append] at this
          simp at this; omega
        exact fin _ H1 Hs1 (st.stow hw rv) (σ.set j (some v)) (by rw [List.set_append_left _ _ hσ])
    · cases e1⟩
theorem e_one {st : Stmt} {s : SP} (h : PS X st (extS i a g (tS (wdOf X) W s))) : PSs X [st] (extS i a g (tS (wdOf X) W s)) := pss_one h
end
end VE
namespace VE
open PySem PySem.Spec PyProof.Rows L2 PySem.W
section
variable {C : Wd} {Hs H Hs' H' : Hp} {σ : L2.St} {env env2 : SE}
theorem Stp.more {Hs0 H0 : Hp} {σ0 : L2.St} {env0 : SE} (s : Stp C Hs0 H0 σ0 env0 Hs H σ env) : Stp C Hs0 H0 σ0 env0 Hs H (σ ++ [none]) (env ++ [none]) := by
  have r := s.rep
  have at_ : ∀ {i : Nat} {b : Bnd}, (env ++ [none])[i]? = some (some b) → env[i]? = some (some b) ∧ (σ ++ [none])[i]? = σ[i]? := fun {i b} e => by
    by_cases z : i < env.length
    · rw [List.getElem?_append_left z] at e
      exact ⟨e, List.getElem?_append_left (by rw [← r.len]; exact z)⟩
    · rw [List.getElem?_append_right (by omega)] at e
      have := List.mem_of_getElem? e
      simp at this
  refine ⟨s.ex, ⟨r.ex, by simp [r.len], fun i b e => ?_, fun i j bi bj a c x e1 e2 e3 e4 e5 e6 => ?_⟩, fun a o h1 h2 h3 => ?_, fun i d' e => ?_⟩
  · obtain ⟨q1, q2⟩ := at_ e
    rw [q2]; exact r.at_ i b q1
  · obtain ⟨p1, p2⟩ := at_ e1
    obtain ⟨q1, q2⟩ := at_ e2
    rw [p2] at e5
    rw [q2] at e6
    exact r.sep i j bi bj a c x p1 q1 e3 e4 e5 e6
  · obtain ⟨k1, k2, k3⟩ := s.fr a o h1 h2 h3
    refine ⟨k1, k2, fun ⟨i, b, c, e1, e2, e3, e4⟩ => k3 ?_⟩
    obtain ⟨q1, q2⟩ := at_ e1
    exact ⟨i, b, c, q1, e2, by rw [← q2]; exact e3, e4⟩
  · obtain ⟨q1, q2⟩ := at_ e
    rw [q2]; exact s.io i d' q1
theorem Stp.last {x : Addr} {d : D} (s : Stp C Hs H σ env Hs' H' (σ ++ [some (.ref x)]) env2) (e : env2.getLast? = some (some (.own d))) : RV C Hs H σ env Hs' H' σ env2.dropLast (.fr d) (.ref x) := by
  have r := s.rep
  have hl : env2.length = σ.length + 1 := by rw [r.len, List.length_append]; rfl
  have ha : env2[σ.length]? = some (some (.own d)) := by
    rw [List.getLast?_eq_getElem?, hl] at e
    simpa using e
  have es : (σ ++ [some (V.ref x)])[σ.length]? = some (some (V.ref x)) := by
    rw [List.getElem?_append_right (Nat.le_refl _)]; simp
  obtain ⟨b, eb, o⟩ := r.held ha rfl
  rw [es] at eb; cases eb
  refine ⟨x, rfl, o, fun y hy => ⟨fun ⟨i, b, c, e1, e2, e3, e4⟩ => ?_, fun u h1 h2 => ?_⟩⟩
  · have hi := (List.getElem?_eq_some_iff.mp e1).1
    rw [List.length_dropLast] at hi
    have hi' : i < σ.length := by omega
    rw [List.getElem?_dropLast, if_pos (by omega)] at e1
    have := r.sep i σ.length b _ c x y e1 ha e2 rfl (by rw [List.getElem?_append_left hi']; exact e3) es e4 hy
    omega
  · by_cases z : Own H σ env y
    · exact z
    · exact absurd ⟨σ.length, _, x, ha, rfl, es, hy⟩ (s.fr y u h1 h2 z).2.2
end
theorem RVs.wide {C : Wd} {Hs : Hp} {σ τ : L2.St} : ∀ {l : List Val} {vs : List V}, RVs C Hs σ l vs → RVs C Hs (σ ++ τ) l vs
  | [], vs, h => h
  | a :: r, vs, ⟨v, t, e, h1, h2⟩ => ⟨v, t, e, by
    cases a with
    | fz d => exact h1
    | fr d => exact h1
    | bor i =>
      have q : σ[i]? = some (some v) := h1
      show (σ ++ τ)[i]? = some (some v)
      rw [List.getElem?_append_left (List.getElem?_eq_some_iff.mp q).1]
      exact q, RVs.wide h2⟩
def mkE (c : Str) (F : M Val) (l : List Val) : M Val := fun env =>
  (argsE (env ++ [some (.own (.ins c []))]) (.bor env.length :: l)).bind fun e0 => match F e0 with
    | some (.ok (.fz .non) e1) => (backE (env ++ [some (.own (.ins c []))]) (.bor env.length :: l) e1).bind fun env2 => match env2.getLast? with
      | some (some (.own (.ins c' fs))) => some (.ok (.fr (.ins c' fs)) env2.dropLast)
      | _ => none
    | some (.exc k d e1) => (backE (env ++ [some (.own (.ins c []))]) (.bor env.length :: l) e1).map fun env2 => .exc k d env2.dropLast
    | _ => none
def xMk (c : Str) (n : Nat) (F : M Val) (pa : M (List Val)) : M Val := pa.bind fun l env =>
  if l.length + 1 = n ∧ (bors (.bor env.length :: l)).Nodup then mkE c F l env else none
def tMkS (Ca : Addr) (sp : Sp) (E : L2.St → XK) (t : TA) : TE := fun σ H Q => t σ H fun vs H1 => ∀ x dx, H1 x = none → H1 dx = none → dx ≠ x →
  sp (.ref x :: vs) (upd (upd H1 dx (.own x)) x (.ins Ca dx [])) (fun v H2 => v = .non ∧ Q (.ref x) H2) (E σ)
section
variable {X : Cx} {W : WX} {e : Expr} {es : List Expr} {pa : M (List Val)} {pos p0 : Pos} {k : Nat} {f Ca : Addr} {fd : FuncData} {ps : List Str} {sp : Sp} {E : L2.St → XK} {x : Str} {t : TA}
theorem mk_run {pins : List (Addr × Obj)} {σ : L2.St} {H : Hp} {s : Shared} {Q : VK} {us : List Value} {vs : List V} (M : Mk X.K Ca f) (F : FnOk X.prog X.w X.K X.mg X.base (L2.CX X.prog X.w) k f fd ps sp) (room : Room (k + 1) X.A) (bi : Binds X.K fd ps [])
    (out : PassesAt (L2.CX X.prog X.w) X σ (E σ)) (inv : Inv X pins σ H s) (rel : Vals vs us) (want : ∀ x dx, H x = none → H dx = none → dx ≠ x → sp (.ref x :: vs) (upd (upd H dx (.own x)) x (.ins Ca dx [])) (fun v H2 => v = .non ∧ Q (.ref x) H2) (E σ)) :
    wpAny (model X.prog X.w) X.A (call (.ref Ca) us) (EP X pins σ Q) X.xe s := by
  have free : ∀ n, s.heap.objs.size ≤ n → H n = none := fun n h => inv.hok.fresh h
  have w := want _ _ (free (s.heap.objs.size + 1) (Nat.le_succ _)) (free s.heap.objs.size (Nat.le_refl _)) (Nat.ne_of_lt (Nat.lt_succ_self _))
  have inv2 := Inv.made (C := Ca) inv
  have rel2 : Vals (V.ref (s.heap.objs.size + 1) :: vs) (Value.ref (s.heap.objs.size + 1) :: us) := .cons rfl rel
  have size : (Value.ref (s.heap.objs.size + 1) :: us).length = ps.length := rel2.length.symm.trans (F.len _ _ _ _ w)
  have bind := bi _ (Value.ref (s.heap.objs.size + 1) :: us) inv2.kIn (by rw [List.append_nil]; exact size)
  rw [List.append_nil] at bind
  have body := F.run _ X.stack _ _ _ _ _ _ (E σ) (room.make Ca us []) (inv2.env0.make Ca us []) bind rel2 w
  refine wpAny_call (make_map inv.kIn M.makes M.init (beq_iff_eq.mp M.fn) (codeAny_mono body fun r s' end_ => ?_))
  match r, end_ with
  | .error er, end_ => exact out pins _ _ er s' inv2 end_
  | .ok (.ret u), end_ =>
    obtain ⟨v, H', inv3, rv, ev, q3⟩ := inv2.after end_
    subst ev
    exact ⟨rv, V.ref (s.heap.objs.size + 1), H', inv3, rfl, q3⟩
  | .ok .next, end_ => exact end_.elim
  | .ok .brk, end_ => exact end_.elim
  | .ok .cont, end_ => exact end_.elim
theorem pe_mk (M : Mk X.K Ca f) (F : FnOk X.prog X.w X.K X.mg X.base (L2.CX X.prog X.w) k f fd ps sp) (room : Room (k + 1) X.A) (hg : Gl X x) (hm : X.mg x = some (.ref Ca)) (bi : Binds X.K fd ps []) (out : ∀ σ, PassesAt (L2.CX X.prog X.w) X σ (E σ)) (args : PA X (e :: es) t)
    (hdb : (x == ("__debug__" : Str)) = false) (he : starEach (e :: es) X.env = (false, eval e X.env) :: starEach es X.env) (hpl : (backTo pos (starEach es X.env)).any (·.1) = false) : PE X (.Call (.Name x p0) (e :: es) [] pos) (tMkS Ca sp E t) :=
  ⟨fun pins s σ H Q inv want => wpAny_Call_Name_kw (ld_glob inv hg hm (PySem.W.callWith_K (h₀ := X.base) inv.ok.mod.kin M.kp (thn (args.run pos pins s σ H _ inv want) fun us s1 ⟨vs, H1, inv1, r, q⟩ => ⟨inv1.kIn, mk_run M F room bi (out σ) inv1 r q⟩) he hpl) hdb)⟩
theorem mk_read {n : Nat} {F : M Val} {σ : L2.St} {H : Hp} {Q : VK} {C : Wd} {c : Str} (hc : C.mg c = some (.ref Ca)) (h : Tm C W (RVx C) (xMk c n F pa) σ H Q) : tMkS Ca (spF C n F) (WE W) (tA C W pa) σ H Q := by
  obtain ⟨env, Hs, r1, rp, e, fin⟩ := h
  refine Tm.bindAt rp e fin fun l env1 vs H1 Hs1 hp st rv e1 => ?_
  split at e1
  case isFalse => cases e1
  rename_i hcond
  obtain ⟨hl, nd⟩ := hcond
  intro x dx hx hdx hne
  have le : env1.length = σ.length := st.rep.len
  have n1 : ∀ y, H1 y = none → Hs1 y = none := fun y hy => xBack st.rep.ex hy
  have h2x : (upd (upd H1 dx (.own x)) x (.ins Ca dx [])) x = some (.ins Ca dx []) := upd_same
  have keep : ∀ y u, H1 y = some u → (upd (upd H1 dx (HO.own x)) x (HO.ins Ca dx [])) y = some u := fun y u hy => by
    rw [upd_ne (fun z => by rw [z, hx] at hy; cases hy), upd_ne (fun z => by rw [z, hdx] at hy; cases hy)]; exact hy
  generalize hH2 : upd (upd H1 dx (HO.own x)) x (HO.ins Ca dx []) = H2 at h2x keep
  have gr : Grow Hs1 H1 Hs1 H2 := ⟨Ex.refl _, fun y o hy => keep y o (st.rep.ex y o hy), keep, fun _ _ _ n => n⟩
  have st2 : Stp C Hs H σ env Hs1 H2 σ env1 := st.trans (Stp.grow st.rep gr)
  have ow : OwnAt C Hs1 H2 (.ins c []) x := ⟨Ca, dx, [], hc, h2x, by simp only [RpF]⟩
  have one : ∀ y ∈ ft H2 (.ins c []) x, y = x := fun y hy => by rw [ow.tree.2] at hy; exact List.mem_singleton.mp hy
  have rvx : RV C Hs1 H1 σ env1 Hs1 H2 (σ ++ [none]) (env1 ++ [none]) (.fr (.ins c [])) (.ref x) := by
    refine ⟨x, rfl, Held.one ow (n1 x hx), fun y hy => ?_⟩
    cases one y hy
    refine ⟨fun z => ?_, fun u h1 h2 => by rw [hx] at h1; cases h1⟩
    have z1 : Own H2 σ env1 x := by
      obtain ⟨i, b, a, e1, e2, e3, e4⟩ := z
      have hi : i < env1.length := by
        by_cases hi : i < env1.length
        · exact hi
        · rw [List.getElem?_append_right (by omega)] at e1
          have := List.mem_of_getElem? e1
          simp at this
      rw [List.getElem?_append_left hi] at e1
      rw [List.getElem?_append_left (by rw [← le]; exact hi)] at e3
      exact ⟨i, b, a, e1, e2, e3, e4⟩
    obtain ⟨_, u, hu⟩ := Own.there st.rep ((Own.grow st.rep gr x).mp z1)
    rw [hx] at hu; cases hu
  have hst : stow env1.length (.fr (.ins c [])) (env1 ++ [none]) = some (env1 ++ [some (.own (.ins c []))]) := by
    unfold stow
    rw [if_pos (by simp), List.getElem?_append_right (Nat.le_refl _)]
    simp
  have st3 : Stp C Hs1 H1 σ env1 Hs1 H2 (σ ++ [some (.ref x)]) (env1 ++ [some (.own (.ins c []))]) := by
    have q := Stp.stow (Stp.more (Stp.grow st.rep gr)) hst rvx
    rw [le, List.set_append_right _ _ (Nat.le_refl _)] at q
    simpa using q
  have st4 := st.trans st3
  have rv4 : RVs C Hs1 (σ ++ [some (.ref x)]) (.bor env1.length :: l) (V.ref x :: vs) := by
    refine ⟨_, _, rfl, ?_, ?_⟩
    · show (σ ++ [some (V.ref x)])[env1.length]? = some (some (V.ref x))
      rw [le, List.getElem?_append_right (Nat.le_refl _)]; simp
    · exact RVs.wide rv
  unfold mkE at e1
  cases ha : argsE (env1 ++ [some (.own (.ins c []))]) (.bor env1.length :: l) with
  | none => rw [ha] at e1; cases e1
  | some e0 =>
    rw [ha, Option.bind_some] at e1
    have rc := st4.rep.call rv4 ha nd
    refine ⟨by rw [List.length_cons, rv.length, hl], e0, Hs1, ?_⟩
    cases hF : F e0 with
    | none => rw [hF] at e1; cases e1
    | some o =>
      rw [hF] at e1
      refine ⟨o, rc, hF.symm ▸ rfl, ?_⟩
      cases o with
      | ok a e2 =>
        cases a with
        | bor i => cases e1
        | fr d => cases e1
        | fz d =>
          cases d with
          | non =>
            obtain ⟨env2, hb, e3⟩ := Option.bind_eq_some_iff.mp e1
            split at e3
            · rename_i c' fs hg
              cases e3
              intro v H' Hs' s rv'
              have sc := st4.trans (Stp.call st4.rep rv4 ha nd s hb).1
              exact ⟨by simpa [RV, Rp] using rv', fin (.ref x) H' Hs' sc.unghost (Stp.last sc hg)⟩
            · cases e3
          | _ => cases e1
      | exc k d e2 =>
        obtain ⟨env2, hb, e3⟩ := Option.map_eq_some_iff.mp e1
        cases e3
        intro cls od H' Hs' s xr
        have sc := st4.trans (Stp.call st4.rep rv4 ha nd s hb).1
        exact fin cls od H' Hs' sc.unghost xr
theorem x_mk {n : Nat} {F : M Val} (M : Mk X.K Ca f) (G : FnOk X.prog X.w X.K X.mg X.base (L2.CX X.prog X.w) k f fd ps (spF (wdOf X) n F)) (hr : Room (k + 1) X.A) (hg : Gl X x) (hm : X.mg x = some (.ref Ca)) (hb : Binds X.K fd ps []) (tk : Takes X W)
    (ha : PA X (e :: es) (tA (wdOf X) W pa)) (hdb : (x == ("__debug__" : Str)) = false := by decide) (he : starEach (e :: es) X.env = (false, eval e X.env) :: starEach es X.env := by rfl) (hpl : (backTo pos (starEach es X.env)).any (·.1) = false := by rfl) :
    PE X (.Call (.Name x p0) (e :: es) [] pos) (tX (wdOf X) W (xMk x n F pa)) :=
  pe_weak (pe_mk M G hr hg hm hb (fun σ => passAt tk σ) ha hdb he hpl) fun _ _ _ h => mk_read hm h
end
end VE
namespace VE
open PySem PySem.Spec PyProof.Rows L2 PySem.W
def callE (n : Nat) (F : M Val) (l : List Val) : M Val := fun env =>
  if l.length = n ∧ (bors l).Nodup then
    (argsE env l).bind fun e0 => match F e0 with
      | some (.ok (.fz d) e1) => (backE env l e1).map (.ok (.fz d))
      | some (.ok (.fr d) e1) => (backE env l e1).map (.ok (.fr d))
      | some (.exc c d e1) => (backE env l e1).map (.exc c d)
      | _ => none
  else none
theorem xdef_callE {n : Nat} {F : M Val} {pa : M (List Val)} : xdef n F pa = pa.bind (callE n F) := rfl
section
variable {X : Cx} {C : Wd} {W : WX} {e o a b : Expr} {es : List Expr} {p q : M Val} {pa : M (List Val)} {pos p0 apos : Pos} {k : Nat} {f Ca : Addr} {fd : FuncData} {ps : List Str} {sp : Sp} {E : L2.St → XK} {x m c : Str} {t : TA} {n : Nat} {F : M Val} {ta tb : TE}
theorem call_at {Hs H : Hp} {σ : L2.St} {env : SE} {l : List Val} {vs : List V} {r1 : Out Val} {Q : VK} (rp : Rep C Hs H σ env) (rv : RVs C Hs σ l vs) (e1 : callE n F l env = some r1) (fin : Fin C W (RVx C) Hs H σ env Q r1) : spF C n F vs H Q (WE W σ) := by
  unfold callE at e1
  split at e1
  case isFalse => cases e1
  rename_i hc
  obtain ⟨hl, nd⟩ := hc
  obtain ⟨e0, ha, e1⟩ := Option.bind_eq_some_iff.mp e1
  refine ⟨by rw [rv.length, hl], e0, Hs, ?_⟩
  have rc := rp.call rv ha nd
  cases hF : F e0 with
  | none => rw [hF] at e1; cases e1
  | some o =>
    rw [hF] at e1
    refine ⟨o, rc, hF.symm ▸ rfl, ?_⟩
    cases o with
    | ok a e2 =>
      cases a with
      | bor i => cases e1
      | fz d =>
        obtain ⟨env2, hb, e3⟩ := Option.map_eq_some_iff.mp e1
        cases e3
        exact fun v H' Hs' s x => fin v H' Hs' (Stp.call rp rv ha nd s hb).1 x
      | fr d =>
        obtain ⟨env2, hb, e3⟩ := Option.map_eq_some_iff.mp e1
        cases e3
        exact fun v H' Hs' s x => fin v H' Hs' (Stp.call rp rv ha nd s hb).1 (RV.call rp rv ha nd s hb (fun _ z => by cases z) x)
    | exc c d e2 =>
      obtain ⟨env2, hb, e3⟩ := Option.map_eq_some_iff.mp e1
      cases e3
      exact fun cls od H' Hs' s x => fin cls od H' Hs' (Stp.call rp rv ha nd s hb).1 x
def isIns (c m : Str) (env : SE) (v : Val) : Bool := match deref env v with
  | some (.ins c' fs) => decide (c' = c) && (fs.lookup m).isNone
  | _ => false
theorem RpF.lookup {H : Hp} {g : Str} : ∀ {fs : List (Str × D)} {xs : List (Str × V)}, RpF C H fs xs → (∀ d, fs.lookup g = some d → ∃ v, xs.lookup g = some v ∧ Rp C H d v) ∧ (fs.lookup g = none → xs.lookup g = none)
  | [], xs, h => by
    simp only [RpF] at h
    subst h
    exact ⟨fun d z => (by cases z), fun _ => rfl⟩
  | (n, d) :: fs, xs, h => by
    simp only [RpF] at h
    obtain ⟨v, r, rfl, h1, h2⟩ := h
    obtain ⟨i1, i2⟩ := RpF.lookup (g := g) h2
    by_cases z : g = n
    · have hb : (g == n) = true := beq_iff_eq.mpr z
      refine ⟨fun d' e => ?_, fun e => ?_⟩
      · simp only [List.lookup, hb] at e ⊢
        cases e
        exact ⟨v, rfl, h1⟩
      · simp only [List.lookup, hb] at e
        cases e
    · have hb : (g == n) = false := beq_eq_false_iff_ne.mpr z
      refine ⟨fun d' e => ?_, fun e => ?_⟩
      · simp only [List.lookup, hb] at e ⊢
        exact i1 d' e
      · simp only [List.lookup, hb] at e ⊢
        exact i2 e
theorem RdV.ins {Hs H : Hp} {fs : List (Str × D)} {v : V} (ex : Ex Hs H) (hc : C.mg c = some (.ref Ca)) (h : RdV C Hs H (.ins c fs) v) : ∃ a dx xs, v = .ref a ∧ H a = some (.ins Ca dx xs) ∧ RpF C Hs fs xs := by
  rcases h with h | ⟨a, e, h⟩
  · simp only [Rp] at h
    obtain ⟨a, Ca', dx, xs, e1, h0, h1, h2⟩ := h
    rw [hc] at h0; cases h0
    exact ⟨a, dx, xs, e1, ex _ _ h1, h2⟩
  · obtain ⟨Ca', dx, xs, h0, h1, h2⟩ := h
    rw [hc] at h0; cases h0
    exact ⟨a, dx, xs, e, h1, h2⟩
theorem isIns_at {Hs H : Hp} {σ : L2.St} {env : SE} {v : Val} {u : V} (r : Rep C Hs H σ env) (hc : C.mg c = some (.ref Ca)) (h : VV C Hs σ v u) (e : isIns c m env v = true) : ∃ a dx xs, u = .ref a ∧ H a = some (.ins Ca dx xs) ∧ xs.lookup m = none := by
  unfold isIns at e
  split at e
  · rename_i c' fs hd
    obtain ⟨e1, e2⟩ := Bool.and_eq_true_iff.mp e
    have e1 := of_decide_eq_true e1
    subst e1
    obtain ⟨a, dx, xs, h1, h2, h3⟩ := RdV.ins r.ex hc (r.deref h hd)
    exact ⟨a, dx, xs, h1, h2, (RpF.lookup h3).2 (Option.isNone_iff_eq_none.mp e2)⟩
  · cases e
def nox (p : M Val) : M Val := fun env => match p env with
  | some (.ok v e) => some (.ok v e)
  | _ => none
theorem nox_ok {env : SE} {r : Out Val} (e : nox p env = some r) : p env = some r ∧ ∃ v e1, r = .ok v e1 := by
  unfold nox at e
  split at e
  · rename_i v e1 h
    cases e
    exact ⟨h, v, e1, rfl⟩
  · cases e
theorem call_nox {Hs H : Hp} {σ : L2.St} {env : SE} {l : List Val} {vs : List V} {r1 : Out Val} {Q : VK} (rp : Rep C Hs H σ env) (rv : RVs C Hs σ l vs) (e1 : nox (callE n F l) env = some r1) (fin : Fin C W (RVx C) Hs H σ env Q r1) : spF C n F vs H Q E0 := by
  obtain ⟨e2, v, env2, rfl⟩ := nox_ok e1
  exact call_at (W := fun _ _ _ _ => False) rp rv e2 fin
def tMethS (Ca : Addr) (m : Str) (sp : Sp) (E : L2.St → XK) (ta : TE) (t : TA) : TE := fun σ H Q => ta σ H fun x H1 => ∃ a dx fs, x = .ref a ∧ H1 a = some (.ins Ca dx fs) ∧ fs.lookup m = none ∧ t σ H1 fun vs H2 => sp (x :: vs) H2 Q (E σ)
theorem pe_mth {pl : Sem Bool} (ho : PE X o ta) (cl : Cls X.K Ca) (hm : Meth X.K Ca m f) (G : FnOk X.prog X.w X.K X.mg X.base (L2.CX X.prog X.w) k f fd ps sp) (room : Room k X.A) (bi : Binds X.K fd ps []) (out : ∀ σ, PassesAt (L2.CX X.prog X.w) X σ (E σ)) (args : PA X (e :: es) t)
    (hst : starEach (e :: es) X.env = (false, eval e X.env) :: starEach es X.env) (hpl : (backTo pos (starEach es X.env)).any (·.1) = false)
    (tree : eval (.Call (.Attribute o m apos) (e :: es) [] pos) X.env = (do
      let ov ← eval o X.env
      standAt apos.atName
      let (g, first) ← holding [ov] (getMethod ov m pl)
      callWith pos g first (backTo pos (starEach (e :: es) X.env)) (backToKw pos (keywordEach [] X.env)))) :
    PE X (.Call (.Attribute o m apos) (e :: es) [] pos) (tMethS Ca m sp E ta t) :=
  ⟨fun pins s σ H Q inv want => PySem.W.methodCall_KW (pl := pl) (thn (ho.run pins s σ H _ inv want) fun u s1 ⟨x, H1, inv1, rx, a, dx, fs, ex, ea, l, q⟩ => by
    subst ex
    cases (show u = Value.ref a from rx)
    exact getmeth_ok inv1 ea cl hm l (PySem.W.callWith_K (first := [.ref a]) (h₀ := X.base) inv.ok.mod.kin hm.kp (thn (args.run pos pins s1 σ H1 _ inv1 q) fun us s2 ⟨vs, H2, inv2, r, q2⟩ => ⟨inv2.kIn,
      run_fnS (us := .ref a :: us) (vs := .ref a :: vs) G room bi (out σ) inv2 (.cons rfl r) q2⟩) hst hpl)) tree⟩
theorem pe_mth0 {pl : Sem Bool} (ho : PE X o ta) (cl : Cls X.K Ca) (hm : Meth X.K Ca m f) (G : FnOk X.prog X.w X.K X.mg X.base (L2.CX X.prog X.w) k f fd ps sp) (room : Room k X.A) (bi : Binds X.K fd ps []) (out : ∀ σ, PassesAt (L2.CX X.prog X.w) X σ (E σ))
    (tree : eval (.Call (.Attribute o m apos) [] [] pos) X.env = (do
      let ov ← eval o X.env
      standAt apos.atName
      let (g, first) ← holding [ov] (getMethod ov m pl)
      callWith pos g first (backTo pos (starEach [] X.env)) (backToKw pos (keywordEach [] X.env)))) :
    PE X (.Call (.Attribute o m apos) [] [] pos) (tMethS Ca m sp E ta tNil) :=
  ⟨fun pins s σ H Q inv want => PySem.W.methodCall_KW (pl := pl) (thn (ho.run pins s σ H _ inv want) fun u s1 ⟨x, H1, inv1, rx, a, dx, fs, ex, ea, l, q⟩ => by
    subst ex
    cases (show u = Value.ref a from rx)
    exact getmeth_ok inv1 ea cl hm l (PySem.W.callWith_K0 (first := [.ref a]) inv1.kIn hm.kp (run_fnS (us := [.ref a]) (vs := [.ref a]) G room bi (out σ) inv1 (.cons rfl .nil) q))) tree⟩
def aRecv (c m : Str) (p : M Val) (pa : M (List Val)) : M (List Val) := p.bind fun v => match v with
  | .fr _ => fun _ => none
  | v => fun env => if isIns c m env v = true then (pa.bind fun l => M.pure (v :: l)) env else none
def xMeth (c m : Str) (n : Nat) (F : M Val) (p : M Val) (pa : M (List Val)) : M Val := xdef n F (aRecv c m p pa)
theorem meth_read {σ : L2.St} {H : Hp} {Q : VK} (hc : C.mg c = some (.ref Ca)) (h : Tm C W (RVx C) (xMeth c m n F p pa) σ H Q) : tMethS Ca m (spF C n F) (WE W) (tX C W p) (tA C W pa) σ H Q := by
  obtain ⟨env, Hs, r1, rp, e, fin⟩ := tCall_read h
  refine Tm.bindAt rp e fin fun va env1 v H1 Hs1 hp st rv e1 => ?_
  have go : ∀ {va : Val}, VV C Hs1 σ va v → (if isIns c m env1 va = true then (pa.bind fun l => M.pure (va :: l)) env1 else none) = some r1 → (∀ {H2 Hs2 : Hp} {env2 : SE}, Stp C Hs1 H1 σ env1 Hs2 H2 σ env2 → VV C Hs2 σ va v) →
      ∃ a dx fs, v = .ref a ∧ H1 a = some (.ins Ca dx fs) ∧ fs.lookup m = none ∧ tA C W pa σ H1 fun vs H2 => spF C n F (v :: vs) H2 Q (WE W σ) := fun {va} hv e1 later => by
    split at e1
    case isFalse => cases e1
    rename_i hi
    obtain ⟨a, dx, fs, h1, h2, h3⟩ := isIns_at st.rep hc hv hi
    refine ⟨a, dx, fs, h1, h2, h3, ?_⟩
    refine Tm.bindAt st.rep e1 (laterA st fin) fun vs env2 us H2 Hs2 hq st2 rv2 e2 => ?_
    cases e2
    exact fin _ H2 Hs2 (st.trans st2) ⟨_, _, rfl, later st2, rv2⟩
  cases va with
  | fr d => cases e1
  | fz d => exact go (va := .fz d) rv e1 fun s => Rp.mono s.ex _ _ rv
  | bor i => exact go (va := .bor i) rv e1 fun _ => rv
theorem x_meth {pl : Sem Bool} (hc : X.mg c = some (.ref Ca)) (cl : Cls X.K Ca) (hm : Meth X.K Ca m f) (G : FnOk X.prog X.w X.K X.mg X.base (L2.CX X.prog X.w) k f fd ps (spF (wdOf X) n F)) (hr : Room k X.A) (hb : Binds X.K fd ps []) (tk : Takes X W) (ho : PE X o (tX (wdOf X) W p)) (ha : PA X (e :: es) (tA (wdOf X) W pa))
    (hst : starEach (e :: es) X.env = (false, eval e X.env) :: starEach es X.env := by rfl) (hpl : (backTo pos (starEach es X.env)).any (·.1) = false := by rfl)
    (ht : eval (.Call (.Attribute o m apos) (e :: es) [] pos) X.env = (do
      let ov ← eval o X.env
      standAt apos.atName
      let (g, first) ← holding [ov] (getMethod ov m pl)
      callWith pos g first (backTo pos (starEach (e :: es) X.env)) (backToKw pos (keywordEach [] X.env))) := by rfl) :
    PE X (.Call (.Attribute o m apos) (e :: es) [] pos) (tX (wdOf X) W (xMeth c m n F p pa)) :=
  pe_weak (pe_mth ho cl hm G hr hb (fun σ => passAt tk σ) ha hst hpl ht) fun _ _ _ h => meth_read hc h
theorem x_meth0 {pl : Sem Bool} (hc : X.mg c = some (.ref Ca)) (cl : Cls X.K Ca) (hm : Meth X.K Ca m f) (G : FnOk X.prog X.w X.K X.mg X.base (L2.CX X.prog X.w) k f fd ps (spF (wdOf X) n F)) (hr : Room k X.A) (hb : Binds X.K fd ps []) (tk : Takes X W) (ho : PE X o (tX (wdOf X) W p))
    (ht : eval (.Call (.Attribute o m apos) [] [] pos) X.env = (do
      let ov ← eval o X.env
      standAt apos.atName
      let (g, first) ← holding [ov] (getMethod ov m pl)
      callWith pos g first (backTo pos (starEach [] X.env)) (backToKw pos (keywordEach [] X.env))) := by rfl) :
    PE X (.Call (.Attribute o m apos) [] [] pos) (tX (wdOf X) W (xMeth c m n F p aNil)) :=
  pe_weak (pe_mth0 ho cl hm G hr hb (fun σ => passAt tk σ) ht) fun σ H Q h => by
    obtain ⟨env, Hs, r1, rp, e, fin⟩ := meth_read hc h
    refine ⟨env, Hs, r1, rp, e, ?_⟩
    cases r1 with
    | exc k d e1 => exact fin
    | ok va env1 =>
      intro v H1 Hs1 st rv
      obtain ⟨a, dx, fs, h1, h2, h3, env2, Hs2, r2, rp2, e2, fin2⟩ := fin v H1 Hs1 st rv
      cases e2
      exact ⟨a, dx, fs, h1, h2, h3, fin2 [] H1 Hs2 (Stp.refl rp2) rfl⟩
def xProp (c m : Str) (F : M Val) (p : M Val) : M Val := p.bind fun v env => if isIns c "" env v = true then nox (callE 1 F [v]) env else none
theorem x_prop {g pr : Addr} (hc : X.mg c = some (.ref Ca)) (cl : Cls X.K Ca) (hp : PropOf X.K Ca m pr g) (G : FnOk X.prog X.w X.K X.mg X.base (L2.CX X.prog X.w) k g fd ps (spF (wdOf X) 1 F)) (hr : Room (k + 1) X.A) (hb : Binds X.K fd ps []) (ho : PE X o (tX (wdOf X) W p))
    (hab : attributeBase o m X.env (eval o X.env) = eval o X.env := by rfl) : PE X (.Attribute o m pos) (tX (wdOf X) W (xProp c m F p)) :=
  pe_weak (pe_prop (dvs := []) (ds := []) (E := E0) ho cl hp G hr hb .nil passL hab) fun σ H Q ⟨env, Hs, r1, rp, e, fin⟩ => by
    refine Tm.bindAt rp e fin fun va env1 v H1 Hs1 hp st rv e1 => ?_
    split at e1
    case isFalse => cases e1
    rename_i hi
    have hv : VV (wdOf X) Hs1 σ va v := by
      cases va with
      | fz d => exact rv
      | bor i => exact rv
      | fr d => cases hi
    obtain ⟨a, dx, fs, h1, h2, h3⟩ := isIns_at st.rep hc hv hi
    subst h1
    exact ⟨a, dx, fs, rfl, h2, call_nox st.rep (l := [va]) ⟨_, _, rfl, hv, rfl⟩ e1 (laterX st fin)⟩
def xFld (c m : Str) (p : M Val) : M Val := p.bind fun v env => match deref env v with
  | some (.ins c' fs) => if c' = c then (fs.lookup m).map fun d => .ok (.fz d) env else none
  | _ => none
theorem x_fld (hc : X.mg c = some (.ref Ca)) (cl : Cls X.K Ca) (na : NoAttr X.K Ca m) (ho : PE X o (tX (wdOf X) W p)) (hab : attributeBase o m X.env (eval o X.env) = eval o X.env := by rfl) : PE X (.Attribute o m pos) (tX (wdOf X) W (xFld c m p)) :=
  pe_weak (pe_fld ho hab) fun σ H Q ⟨env, Hs, r1, rp, e, fin⟩ => by
    refine Tm.bindAt rp e fin fun va env1 v H1 Hs1 hp st rv e1 => ?_
    split at e1
    case h_2 => cases e1
    rename_i c' fs hd
    split at e1
    case isFalse => cases e1
    rename_i hcc
    subst hcc
    have hv : VV (wdOf X) Hs1 σ va v := rv.vv hd
    obtain ⟨a, dx, xs, h1, h2, h3⟩ := RdV.ins st.rep.ex hc (st.rep.deref hv hd)
    obtain ⟨d, hl, e2⟩ := Option.map_eq_some_iff.mp e1
    cases e2
    obtain ⟨u, hu, hr⟩ := (RpF.lookup h3).1 d hl
    exact ⟨a, Ca, dx, xs, u, h1, h2, cl, na, hu, fin u H1 Hs1 st hr⟩
end
end VE
namespace VE
open PySem PySem.Spec PyProof.Rows L2 PySem.W
def rLenO (Ca : Addr) (sp : Sp) : List V → Hp → VK → Prop := fun xs H Q => ∃ a dx fs, xs = [V.ref a] ∧ H a = some (.ins Ca dx fs) ∧ sp [V.ref a] H (fun v H' => ∃ n : Nat, v = .int n ∧ n < 2 ^ 63 ∧ Q v H') E0
def rEqO (Ca : Addr) (sp : Sp) : R2 := fun x y H Q => ∃ a dx fs b dy gs, x = .ref a ∧ y = .ref b ∧ H a = some (.ins Ca dx fs) ∧ H b = some (.ins Ca dy gs) ∧ sp [x, y] H Q E0
def OpRS (X : Cx) (f : Value → Value → Sem Value) (r : L2.St → R2) : Prop :=
  ∀ (pins : List (Addr × Obj)) (s : Shared) (σ : L2.St) (H : Hp) (x y : V) (v u : Value) (Q : VK), Inv X pins σ H s → RelV x v → RelV y u → r σ x y H Q → wpAny (model X.prog X.w) X.A (f v u) (EP X pins σ Q) X.xe s
def tOpS (r : L2.St → R2) (ta tb : TE) : TE := fun σ H Q => ta σ H fun x H1 => tb σ H1 fun y H2 => r σ x y H2 Q
def rOpO (Ca : Addr) (sp : Sp) (E : L2.St → XK) : L2.St → R2 := fun σ x y H Q => ∃ a dx fs b dy gs, x = .ref a ∧ y = .ref b ∧ H a = some (.ins Ca dx fs) ∧ H b = some (.ins Ca dy gs) ∧ sp [x, y] H Q (E σ)
section
variable {X : Cx} {C : Wd} {W : WX} {e o a b : Expr} {es : List Expr} {p q : M Val} {pa : M (List Val)} {pos p0 p1 p2 apos : Pos} {k : Nat} {f Ca : Addr} {fd : FuncData} {ps : List Str} {sp : Sp} {E : L2.St → XK} {x m c : Str} {t : TA} {n : Nat} {F : M Val} {ta tb : TE}
theorem rel_ni {v : V} (h : RelV v .notImplemented) : False := by
  cases v <;> first
    | (obtain ⟨t, z⟩ := h; exact nomatch z)
    | exact nomatch h
theorem inst_of {pins : List (Addr × Obj)} {σ : L2.St} {H : Hp} {s : Shared} {a dx : Addr} {fs : List (Str × V)} (inv : Inv X pins σ H s) (h : H a = some (.ins Ca dx fs)) : ∃ ox od, PySem.W.InstAt s.heap a ox Ca od := by
  obtain ⟨mA, O, _⟩ := ins_get inv.hok h
  obtain ⟨od, J, _⟩ := O.look
  exact ⟨_, _, J⟩
theorem run_in {pins : List (Addr × Obj)} {σ : L2.St} {H : Hp} {s : Shared} {Q : VK} {us : List Value} {vs : List V} (G : FnOk X.prog X.w X.K X.mg X.base (L2.CX X.prog X.w) k f fd ps sp) (room : Room (k + 1) X.A) (bi : Binds X.K fd ps []) (inv : Inv X pins σ H s) (rel : Vals vs us) (want : sp vs H Q E0) :
    wpAny (model X.prog X.w) X.A.in1 (call (.ref f) us) (EP X pins σ Q) X.xe s := by
  have size : us.length = ps.length := rel.length.symm.trans (G.len _ _ _ _ want)
  have bind := bi s us inv.kIn (by rw [List.append_nil]; exact size)
  rw [List.append_nil] at bind
  refine wpAny_call (codeAny_mono (G.run _ X.stack s H _ _ _ Q E0 room.in1 inv.env0.in1 bind rel want) fun r s' end_ => ?_)
  match r, end_ with
  | .error er, end_ => exact (passL pins σ H s er s' inv end_)
  | .ok (.ret u), end_ => exact inv.after end_
  | .ok .next, end_ => exact end_.elim
  | .ok .brk, end_ => exact end_.elim
  | .ok .cont, end_ => exact end_.elim
theorem callO_len (G : FnOk X.prog X.w X.K X.mg X.base (L2.CX X.prog X.w) k f fd ps sp) (room : Room (k + 1) X.A) (bi : Binds X.K fd ps []) (hs : PySem.W.findIn X.K (.ref Ca) "__len__" = some (some (.ref f))) (hf : PySem.W.isFn X.K (.ref f) = true) : CallR X (.builtin "len") (rLenO Ca sp) := by
  intro pins s σ H xs us Q inv r h
  obtain ⟨a, dx, fs, rfl, ha, q⟩ := h
  obtain ⟨u, rfl, ru⟩ := vals1 r
  cases (show u = Value.ref a from ru)
  obtain ⟨_, _, J⟩ := inst_of inv ha
  obtain ⟨mm, hF⟩ := inv.fr
  have rl : Vals [V.ref a] [Value.ref a] := .cons rfl .nil
  refine PySem.W.len_K hF inv.ok.mod.kin J hs hf (wpAny_mono (run_in G room bi inv rl q) (fun v s' z => ?_) fun _ _ z => z)
  obtain ⟨w, H', inv', rw', n, e, hn, q'⟩ := z
  subst e
  obtain ⟨t, rfl⟩ := rw'
  exact ⟨⟨by omega, by omega⟩, .int n, H', inv'.tok _, ⟨_, rfl⟩, q'⟩
theorem opO_eq (G : FnOk X.prog X.w X.K X.mg X.base (L2.CX X.prog X.w) k f fd ps sp) (room : Room k X.A) (bi : Binds X.K fd ps []) (hs : PySem.W.findIn X.K (.ref Ca) "__eq__" = some (some (.ref f))) (hf : PySem.W.isFn X.K (.ref f) = true) : OpR X (compareOp .Eq) (rEqO Ca sp) := by
  intro pins s σ H x y v u Q inv rx ry h
  obtain ⟨a, dx, fs, b, dy, gs, rfl, rfl, ha, hb, q⟩ := h
  cases (show v = Value.ref a from rx)
  cases (show u = Value.ref b from ry)
  obtain ⟨_, _, J⟩ := inst_of inv ha
  obtain ⟨_, _, J'⟩ := inst_of inv hb
  obtain ⟨mm, hF⟩ := inv.fr
  show wpAny (model X.prog X.w) X.A (richCompare .Eq _ _) _ X.xe s
  refine PySem.W.cmp_K (op := .Eq) (tb := .ref Ca) room.units0 hF inv.ok.mod.kin J J'.type (by simp [PySem.W.notFirst]) hs hf ?_
  have rl : Vals [V.ref a, V.ref b] [Value.ref a, Value.ref b] := .cons rfl (.cons rfl .nil)
  refine wpAny_mono (run_fnS (E := fun _ => E0) G room bi (fun pins H s er s' inv end_ => passL pins σ H s er s' inv end_) inv rl q) (fun w s' z => ?_) fun _ _ z => z
  obtain ⟨w', H', inv', rw', q'⟩ := z
  have ep : EP X pins σ Q w s' := ⟨w', H', inv', rw', q'⟩
  cases w <;> first | exact ep | exact (rel_ni rw').elim
theorem opO_bin {op : Operator} (G : FnOk X.prog X.w X.K X.mg X.base (L2.CX X.prog X.w) k f fd ps sp) (room : Room k X.A) (bi : Binds X.K fd ps []) (out : ∀ σ, PassesAt (L2.CX X.prog X.w) X σ (E σ)) (sf : PySem.W.selfFirst X.K Ca = true) (hs : PySem.W.findIn X.K (.ref Ca) (PySem.dunder op.info.2) = some (some (.ref f)))
    (hf : PySem.W.isFn X.K (.ref f) = true) : OpRS X (binaryOp op) (rOpO Ca sp E) := by
  intro pins s σ H x y v u Q inv rx ry h
  obtain ⟨a, dx, fs, b, dy, gs, rfl, rfl, ha, hb, q⟩ := h
  cases (show v = Value.ref a from rx)
  cases (show u = Value.ref b from ry)
  obtain ⟨_, _, J⟩ := inst_of inv ha
  obtain ⟨_, _, J'⟩ := inst_of inv hb
  obtain ⟨mm, hF⟩ := inv.fr
  refine PySem.W.binop_K hF inv.ok.mod.kin J J'.type sf hs hf ?_
  have rl : Vals [V.ref a, V.ref b] [Value.ref a, Value.ref b] := .cons rfl (.cons rfl .nil)
  refine wpAny_mono (run_fnS G room bi (out σ) inv rl q) (fun w s' z => ?_) fun _ _ z => z
  obtain ⟨w', H', inv', rw', q'⟩ := z
  have ep : EP X pins σ Q w s' := ⟨w', H', inv', rw', q'⟩
  cases w <;> first | exact ep | exact (rel_ni rw').elim
theorem pe_opS {op : Operator} {r : L2.St → R2} (ho : OpRS X (binaryOp op) r) (ha : PE X a ta) (hb : PE X b tb) : PE X (.BinOp a op b pos) (tOpS r ta tb) :=
  ⟨fun pins s σ H Q inv h => wpAny_BinOp (binT ha hb inv h fun v u s2 x y H2 inv2 rx ry q => ho pins s2 σ H2 x y v u Q inv2 rx ry q)⟩
def two (c : Str) (F : M Val) (alt : D → D → Option Val) (p q : M Val) : M Val := p.bind fun v => q.bind fun u env =>
  if isIns c "" env v && isIns c "" env u then nox (callE 2 F [v, u]) env else (deref env v).bind fun da => (deref env u).bind fun db => (alt da db).map fun w => .ok w env
theorem two_read {r : R2} {alt : D → D → Option Val} {σ : L2.St} {H : Hp} {Q : VK} (hc : C.mg c = some (.ref Ca)) (hg : OpT C r alt) (h : Tm C W (RVx C) (two c F alt p q) σ H Q) :
    tOp (fun x y H Q => rEqO Ca (spF C 2 F) x y H Q ∨ r x y H Q) (tX C W p) (tX C W q) σ H Q := by
  obtain ⟨env, Hs, r1, rp, e, fin⟩ := h
  refine Tm.bindAt rp e fin fun va env1 v H1 Hs1 hp st rv e1 => ?_
  refine Tm.bindAt st.rep e1 (fin.later st fun _ _ _ _ _ s2 rv => rv.later st) fun vb env2 u H2 Hs2 hq st2 rv2 e2 => ?_
  have st12 := st.trans st2
  split at e2
  · rename_i hi
    obtain ⟨h1, h2⟩ := Bool.and_eq_true_iff.mp hi
    have v1 : VV C Hs2 σ va v := by
      cases va with
      | fr d => cases h1
      | fz d => exact Rp.mono st2.ex _ _ rv
      | bor i => exact rv
    have v2 : VV C Hs2 σ vb u := by
      cases vb with
      | fr d => cases h2
      | fz d => exact rv2
      | bor i => exact rv2
    obtain ⟨a, dx, fs, e3, e4, _⟩ := isIns_at st12.rep hc v1 h1
    obtain ⟨b, dy, gs, e5, e6, _⟩ := isIns_at st12.rep hc v2 h2
    exact .inl ⟨a, dx, fs, b, dy, gs, e3, e5, e4, e6, call_nox st12.rep (l := [va, vb]) ⟨_, _, rfl, v1, _, _, rfl, v2, rfl⟩ e2 (laterX st12 fin)⟩
  · obtain ⟨x, da, e2⟩ := Option.bind_eq_some_iff.mp e2
    obtain ⟨y, db, e2⟩ := Option.bind_eq_some_iff.mp e2
    obtain ⟨val, gv, e3⟩ := Option.map_eq_some_iff.mp e2
    cases e3
    have v1 : VV C Hs2 σ va v := by
      cases va with
      | fr d => cases da
      | fz d => exact Rp.mono st2.ex _ _ rv
      | bor i => exact rv
    have v2 : VV C Hs2 σ vb u := rv2.vv db
    exact .inr (hg Hs2 H2 v u x y val Q st2.rep.ex (st2.rep.deref v1 da) (st2.rep.deref v2 db) gv fun v' H' Hs' gr rg => fin.op st12 gr rg)
def lenO (c : Str) (F : M Val) (alt : List D → Option Val) (pa : M (List Val)) : M Val := pa.bind fun l env => match l with
  | [v] => if isIns c "" env v then (match nox (callE 1 F [v]) env with
    | some (.ok (.fz (.int (.ofNat n))) e) => if n < 2 ^ 63 then some (.ok (.fz (.int n)) e) else none
    | _ => none) else (derefs env l).bind fun ds => (alt ds).map fun v => .ok v env
  | _ => none
theorem lenO_read {r : List V → Hp → VK → Prop} {alt : List D → Option Val} {σ : L2.St} {H : Hp} {Q : VK} (hc : C.mg c = some (.ref Ca)) (hg : CallT C r alt) (h : Tm C W (RVx C) (lenO c F alt pa) σ H Q) :
    tCB (fun xs H Q => rLenO Ca (spF C 1 F) xs H Q ∨ r xs H Q) (tA C W pa) σ H Q := by
  obtain ⟨env, Hs, r1, rp, e, fin⟩ := h
  refine Tm.bindAt rp e fin fun vs env1 us H1 Hs1 hp st rv e1 => ?_
  split at e1
  case h_2 => cases e1
  rename_i v
  split at e1
  · rename_i hi
    obtain ⟨u, t, rfl, v1, rt⟩ := rv
    cases rt
    obtain ⟨a, dx, fs, e3, e4, _⟩ := isIns_at st.rep hc v1 hi
    subst e3
    refine .inl ⟨a, dx, fs, rfl, e4, ?_⟩
    split at e1
    case h_2 => cases e1
    rename_i n e2 hcall
    split at e1
    case isFalse => cases e1
    rename_i hn
    cases e1
    refine call_nox st.rep (W := W) (l := [v]) ⟨_, _, rfl, v1, rfl⟩ hcall fun w H' Hs' s2 rw' => ?_
    have ew : w = .int n := by simpa [RV, Rp] using rw'
    exact ⟨n, ew, hn, fin w H' Hs' (st.trans s2) rw'⟩
  · obtain ⟨ds, hd, e1⟩ := Option.bind_eq_some_iff.mp e1
    obtain ⟨val, gv, e3⟩ := Option.map_eq_some_iff.mp e1
    cases e3
    exact .inr (hg Hs1 H1 us ds val Q st.rep.ex (st.rep.derefs rv hd) gv fun v H' Hs' gr rg => fin.op st gr rg)
def xOpO (c : Str) (F : M Val) (p q : M Val) : M Val := p.bind fun v => q.bind fun u env => if isIns c "" env v && isIns c "" env u then callE 2 F [v, u] env else none
theorem opO_read {σ : L2.St} {H : Hp} {Q : VK} (hc : C.mg c = some (.ref Ca)) (h : Tm C W (RVx C) (xOpO c F p q) σ H Q) : tOpS (rOpO Ca (spF C 2 F) (WE W)) (tX C W p) (tX C W q) σ H Q := by
  obtain ⟨env, Hs, r1, rp, e, fin⟩ := h
  refine Tm.bindAt rp e fin fun va env1 v H1 Hs1 hp st rv e1 => ?_
  refine Tm.bindAt st.rep e1 (fin.later st fun _ _ _ _ _ s2 rv => rv.later st) fun vb env2 u H2 Hs2 hq st2 rv2 e2 => ?_
  have st12 := st.trans st2
  split at e2
  case isFalse => cases e2
  rename_i hi
  obtain ⟨h1, h2⟩ := Bool.and_eq_true_iff.mp hi
  have v1 : VV C Hs2 σ va v := by
    cases va with
    | fr d => cases h1
    | fz d => exact Rp.mono st2.ex _ _ rv
    | bor i => exact rv
  have v2 : VV C Hs2 σ vb u := by
    cases vb with
    | fr d => cases h2
    | fz d => exact rv2
    | bor i => exact rv2
  obtain ⟨a, dx, fs, e3, e4, _⟩ := isIns_at st12.rep hc v1 h1
  obtain ⟨b, dy, gs, e5, e6, _⟩ := isIns_at st12.rep hc v2 h2
  exact ⟨a, dx, fs, b, dy, gs, e3, e5, e4, e6, call_at st12.rep (l := [va, vb]) ⟨_, _, rfl, v1, _, _, rfl, v2, rfl⟩ e2 (laterX st12 fin)⟩
theorem x_opO {op : Operator} (hc : X.mg c = some (.ref Ca)) (G : FnOk X.prog X.w X.K X.mg X.base (L2.CX X.prog X.w) k f fd ps (spF (wdOf X) 2 F)) (hr : Room k X.A) (hb : Binds X.K fd ps []) (tk : Takes X W) (sf : PySem.W.selfFirst X.K Ca = true) (hs : PySem.W.findIn X.K (.ref Ca) (PySem.dunder op.info.2) = some (some (.ref f)))
    (hf : PySem.W.isFn X.K (.ref f) = true) (ha : PE X a (tX (wdOf X) W p)) (hb' : PE X b (tX (wdOf X) W q)) : PE X (.BinOp a op b pos) (tX (wdOf X) W (xOpO c F p q)) :=
  pe_weak (pe_opS (opO_bin (E := WE W) G hr hb (fun σ => passAt tk σ) sf hs hf) ha hb') fun _ _ _ h => opO_read hc h
theorem x_eqO (hc : X.mg c = some (.ref Ca)) (G : FnOk X.prog X.w X.K X.mg X.base (L2.CX X.prog X.w) k f fd ps (spF (wdOf X) 2 F)) (hr : Room k X.A) (hb : Binds X.K fd ps []) (hs : PySem.W.findIn X.K (.ref Ca) "__eq__" = some (some (.ref f))) (hf : PySem.W.isFn X.K (.ref f) = true)
    {r : R2} {alt : D → D → Option Val} (hr2 : OpR X (compareOp .Eq) r) (hg : OpT (wdOf X) r alt) (ha : PE X a (tX (wdOf X) W p)) (hb' : PE X b (tX (wdOf X) W q)) : PE X (.Compare a [.Eq] [b] pos) (tX (wdOf X) W (two c F alt p q)) :=
  pe_weak (pe_cmpR ((opO_eq G hr hb hs hf).or hr2) ha hb' (nomark b)) fun _ _ _ h => two_read hc hg h
theorem b_eqO (hc : X.mg c = some (.ref Ca)) (G : FnOk X.prog X.w X.K X.mg X.base (L2.CX X.prog X.w) k f fd ps (spF (wdOf X) 2 F)) (hr : Room k X.A) (hb : Binds X.K fd ps []) (hs : PySem.W.findIn X.K (.ref Ca) "__eq__" = some (some (.ref f))) (hf : PySem.W.isFn X.K (.ref f) = true)
    {r : R2} {alt : D → D → Option Val} (hr2 : OpR X (compareOp .Eq) r) (hg : OpT (wdOf X) r alt) (ha : PE X a (tX (wdOf X) W p)) (hb' : PE X b (tX (wdOf X) W q)) : PT X (.Compare a [.Eq] [b] pos) (tT (wdOf X) W (bt (two c F alt p q))) :=
  pt_weak (pt_cmpR ((opO_eq G hr hb hs hf).or hr2) ha hb' (nomark b)) fun _ _ _ h => two_read hc hg (tX_bt h)
theorem x_lenO (hc : X.mg c = some (.ref Ca)) (G : FnOk X.prog X.w X.K X.mg X.base (L2.CX X.prog X.w) k f fd ps (spF (wdOf X) 1 F)) (hr : Room (k + 1) X.A) (hb : Binds X.K fd ps []) (hs : PySem.W.findIn X.K (.ref Ca) "__len__" = some (some (.ref f))) (hf : PySem.W.isFn X.K (.ref f) = true)
    {r : List V → Hp → VK → Prop} {alt : List D → Option Val} (hr2 : CallR X (.builtin "len") r) (hT : CallT (wdOf X) r alt) (hgl : Gl X "len") (hm : X.mg "len" = none) (ha : PA X (e :: es) (tA (wdOf X) W pa))
    (he : starEach (e :: es) X.env = (false, eval e X.env) :: starEach es X.env := by rfl) (hpl : (backTo pos (starEach es X.env)).any (·.1) = false := by rfl) : PE X (.Call (.Name "len" p0) (e :: es) [] pos) (tX (wdOf X) W (lenO c F alt pa)) :=
  pe_weak (pe_callB ((callO_len G hr hb hs hf).or hr2) hgl hm (show bootBuiltins "len" = some (.builtin "len") from PyProof.Rows.Boot.«len») ha (by decide) (by decide) he hpl) fun _ _ _ h => lenO_read hc hT h
def putD (g : Str) (d : D) : List (Str × D) → List (Str × D)
  | [] => [(g, d)]
  | (h, x) :: r => if h = g then (h, d) :: r else (h, x) :: putD g d r
theorem RpF.put {H : Hp} {g : Str} {d : D} {v : V} (hv : Rp C H d v) : ∀ {fs : List (Str × D)} {xs : List (Str × V)}, RpF C H fs xs → RpF C H (putD g d fs) (putF g v xs)
  | [], xs, h => by
    simp only [RpF] at h
    subst h
    simp only [putD, putF, RpF]
    exact ⟨v, [], rfl, hv, rfl⟩
  | (n, d0) :: fs, xs, h => by
    simp only [RpF] at h
    obtain ⟨v0, r, rfl, h1, h2⟩ := h
    simp only [putD, putF]
    by_cases z : n = g
    · rw [if_pos z, if_pos z]
      simp only [RpF]
      exact ⟨v, r, rfl, hv, h2⟩
    · rw [if_neg z, if_neg z]
      simp only [RpF]
      exact ⟨v0, _, rfl, h1, RpF.put hv h2⟩
theorem RpF.length {H : Hp} : ∀ {fs : List (Str × D)} {xs : List (Str × V)}, RpF C H fs xs → xs.length = fs.length
  | [], xs, h => by simp only [RpF] at h; subst h; rfl
  | (n, d) :: fs, xs, h => by
    simp only [RpF] at h
    obtain ⟨v, r, rfl, _, h2⟩ := h
    simp [RpF.length h2]
def fldE (i : Nat) (c m : Str) (v : Val) : SP := fun env => match v with
  | .fz d => match env[i]? with
    | some (some b) => match b.d with
      | .ins c' fs => if c' = c ∧ b.ow = true ∧ fs.length < 1000 ∧ flatD (.ins c' fs) = true then some (.nx (env.set i (some (b.put (.ins c' (putD m d fs)))))) else none
      | _ => none
    | _ => none
  | _ => none
def sFldE (i : Nat) (c m : Str) (p : M Val) : SP := sWith p (fldE i c m)
theorem s_fld {i : Nat} {value : Expr} {pos' : Pos} (hc : X.mg c = some (.ref Ca)) (cl : Cls X.K Ca) (na : NoAttr X.K Ca m) (ho : PE X o (tVar i)) (hv : PE X value (tX (wdOf X) W p)) (hs : swapsWith value (some (.Attribute o m pos')) pos.line X.env = pure false := by rfl) :
    PS X (.Assign [.Attribute o m pos'] value pos) (tS (wdOf X) W (sFldE i c m p)) :=
  ps_weak (ps_fld ho hv hs) fun D σ H ⟨env, Hs, r1, rp, e, fin⟩ => by
    refine Tm.with rp e fin fun va env1 y H1 Hs1 hp st rv e1 => ?_
    unfold fldE at e1
    split at e1
    case h_2 => cases e1
    rename_i d
    split at e1
    case h_2 => cases e1
    rename_i b hb
    split at e1
    case h_2 => cases e1
    rename_i c' fs hd
    split at e1
    case isFalse => cases e1
    rename_i hcond
    obtain ⟨rfl, how, hlen, hfl⟩ := hcond
    cases e1
    obtain ⟨a, ea, hh⟩ := st.rep.held hb how
    rw [hd] at hh
    obtain ⟨Ca', dx, xs, h0, h1, h2⟩ := hh.tr.flat hfl
    rw [show (wdOf X).mg c' = some (.ref Ca) from hc] at h0; cases h0
    refine ⟨_, ea, a, Ca, dx, xs, rfl, h1, cl, na, by rw [RpF.length h2]; exact hlen, ?_⟩
    have hn : Hs1 a = none := hh.out a ft_self
    have hw : Stp (wdOf X) Hs1 H1 σ env1 Hs1 (upd H1 a (.ins Ca dx (putF m y xs))) σ (env1.set i (some (b.put (.ins c' (putD m d fs))))) :=
      Stp.write st.rep hb how ea hn ⟨Ca, dx, _, hc, upd_same, RpF.put rv h2⟩
    exact fin σ _ Hs1 (st.trans hw)
end
end VE
namespace VE
open PySem PySem.Spec PyProof.Rows L2 PySem.W
structure InsTy (K : PySem.W.Frag) (C : Addr) : Prop where
  cl : Cls K C
  ha : PySem.W.findIn K (.ref C) "__class__" = some (some (.builtin "object.__class__"))
  hn : PySem.W.specialIn K (.builtin "object.__class__") "__get__" = some (some (.builtin "getset_descriptor.__get__"))
  tk : PySem.W.takesIn K (.builtin "object.__class__") = some true
  hm : PySem.W.mroIn K C (.type "object") = some true
structure IsTab (K : PySem.W.Frag) (mg : Str → Option Value) (y : Addr) (tb : Str → Option Bool) : Prop where
  non : PySem.W.kitOne K (.type "NoneType") (.ref y) = some false
  bl : PySem.W.kitOne K (.type "bool") (.ref y) = some false
  int : PySem.W.kitOne K (.type "int") (.ref y) = some false
  str : PySem.W.kitOne K (.type "str") (.ref y) = some false
  lst : PySem.W.kitOne K (.type "list") (.ref y) = some false
  tup : PySem.W.kitOne K (.type "tuple") (.ref y) = some false
  dct : PySem.W.kitOne K (.type "dict") (.ref y) = some false
  ins : ∀ c Ca b, tb c = some b → mg c = some (.ref Ca) → InsTy K Ca ∧ PySem.W.kitOne K (.ref Ca) (.ref y) = some b
def rIsD (K : PySem.W.Frag) : List V → Hp → VK → Prop := fun xs H Q => ∃ (x : V) (y : Addr) (t : Value) (b : Bool), xs = [x, .ref y] ∧ TyOf K H x t ∧ PySem.W.kitOne K t (.ref y) = some b ∧ Q (.bl b) H
def isD2 (tb : Str → Option Bool) : D → Option Bool
  | .non => some false
  | .bl _ => some false
  | .int _ => some false
  | .str _ => some false
  | .lst _ => some false
  | .tup _ => some false
  | .dct 0 _ => some false
  | .dct 1 _ => some false
  | .ins c _ => tb c
  | _ => none
def xIsI (tb : Str → Option Bool) (p : M Val) : M Val := p.bind fun v env => (deref env v).bind fun d => (isD2 tb d).map fun b => .ok (.fz (.bl b)) env
section
variable {X : Cx} {C : Wd} {W : WX} {e a b : Expr} {es : List Expr} {p q : M Val} {pos p0 p1 : Pos}
theorem callD_is : CallR X (.builtin "isinstance") (rIsD X.K) := by
  intro pins s σ H xs us Q I r h
  obtain ⟨x, y, t, b, rfl, ht, hk, q⟩ := h
  obtain ⟨u, w, rfl, rx, ry⟩ := vals2 r
  cases (show w = Value.ref y from ry)
  exact isinst_ok I rx ht hk fun tk => ⟨.bl b, H, I.kept (t' := tk) fun _ _ z => z, rfl, q⟩
theorem isD_ty {Hs H : Hp} {d : D} {v : V} {y : Addr} {tb : Str → Option Bool} {b : Bool} (T : IsTab C.K C.mg y tb) (ex : Ex Hs H) (h : RdV C Hs H d v) (e : isD2 tb d = some b) : ∃ t, TyOf C.K H v t ∧ PySem.W.kitOne C.K t (.ref y) = some b := by
  have flat : ∀ {d : D}, (∀ a, ¬ OwnAt C Hs H d a) → RdV C Hs H d v → Rp C Hs d v := fun {d} n h => h.elim id fun ⟨a, _, z⟩ => (n a z).elim
  cases d with
  | non =>
    have z := flat (d := .non) (fun _ z => False.elim z) h
    simp only [Rp] at z; subst z; cases e
    exact ⟨_, .non, T.non⟩
  | bl k =>
    have z := flat (d := (.bl k)) (fun _ z => False.elim z) h
    simp only [Rp] at z; subst z; cases e
    exact ⟨_, .bl k, T.bl⟩
  | int k =>
    have z := flat (d := (.int k)) (fun _ z => False.elim z) h
    simp only [Rp] at z; subst z; cases e
    exact ⟨_, .int k, T.int⟩
  | str k =>
    have z := flat (d := (.str k)) (fun _ z => False.elim z) h
    simp only [Rp] at z; subst z; cases e
    exact ⟨_, .str k, T.str⟩
  | tup ds =>
    have z := flat (d := (.tup ds)) (fun _ z => False.elim z) h
    simp only [Rp] at z; cases e
    obtain ⟨a, xs, rfl, h1, _⟩ := z
    exact ⟨_, .tup (ex _ _ h1), T.tup⟩
  | lst ds =>
    cases e
    rcases h with h | ⟨a, rfl, xs, h1, _⟩
    · simp only [Rp] at h
      obtain ⟨a, xs, rfl, h1, _⟩ := h
      exact ⟨_, .lst (ex _ _ h1), T.lst⟩
    · exact ⟨_, .lst h1, T.lst⟩
  | dct t kvs =>
    have dict : ∀ {Hx : Hp} {a : Addr} {xs : List V}, DictAt C H Hx a t (kvs.map Prod.fst) xs → isD2 tb (.dct t kvs) = some b → ∃ t', TyOf C.K H (.ref a) t' ∧ PySem.W.kitOne C.K t' (.ref y) = some b := fun {Hx a xs} dh e => by
      match t, dh, e with
      | 0, ⟨k, h1, _⟩, e => cases e; exact ⟨_, .dK h1, T.dct⟩
      | 1, ⟨k, h1, _⟩, e => cases e; exact ⟨_, .dT h1, T.dct⟩
      | n + 2, _, e => cases e
    rcases h with h | ⟨a, rfl, xs, h1, _⟩
    · simp only [Rp] at h
      obtain ⟨a, xs, rfl, h1, _⟩ := h
      exact dict (h1.mono (fun o q => ex _ _ q) (Ex.refl _)) e
    · exact dict h1 e
  | ins c fs =>
    have go : ∀ {a Ca dx : Addr} {xs : List (Str × V)}, C.mg c = some (.ref Ca) → H a = some (.ins Ca dx xs) → v = .ref a → ∃ t, TyOf C.K H v t ∧ PySem.W.kitOne C.K t (.ref y) = some b := fun {a Ca dx xs} h0 h1 ev => by
      subst ev
      obtain ⟨q1, q2⟩ := T.ins c Ca b e h0
      exact ⟨_, .ins h1 q1.cl q1.ha q1.hn q1.tk q1.hm, q2⟩
    rcases h with h | ⟨a, ev, Ca, dx, xs, h0, h1, _⟩
    · simp only [Rp] at h
      obtain ⟨a, Ca, dx, xs, ev, h0, h1, _⟩ := h
      exact go h0 (ex _ _ h1) ev
    · exact go h0 h1 ev
  | scr ns => cases e
  | box d => cases e
theorem x_is {y : Str} {Cy : Addr} {tb : Str → Option Bool} (T : IsTab X.K X.mg Cy tb) (hg : Gl X "isinstance") (hm : X.mg "isinstance" = none) (hgy : Gl X y) (hmy : X.mg y = some (.ref Cy)) (he : PE X e (tX (wdOf X) W p))
    (hdb : (y == ("__debug__" : Str)) = false := by decide) (h1 : starEach [e, .Name y p1] X.env = (false, eval e X.env) :: starEach [.Name y p1] X.env := by rfl) (h2 : starEach [.Name y p1] X.env = (false, eval (.Name y p1) X.env) :: starEach [] X.env := by rfl) (hpl : (backTo pos (starEach [.Name y p1] X.env)).any (·.1) = false := by rfl) :
    PE X (.Call (.Name "isinstance" p0) [e, .Name y p1] [] pos) (tX (wdOf X) W (xIsI tb p)) :=
  pe_weak (pe_callB callD_is hg hm (show bootBuiltins "isinstance" = some (.builtin "isinstance") from PyProof.Rows.Boot.«isinstance») (pa_cons he (pa_cons (pe_glob (v := .ref Cy) hgy hmy rfl hdb) pa_nil h2) h1) (by decide) (by decide) h1 hpl) fun σ H Q ⟨env, Hs, r, rp, e, fin⟩ => by
    refine Tm.bindAt rp e fin fun va env1 v H1 Hs1 hp st rv e1 => ?_
    obtain ⟨d, hd, e1⟩ := Option.bind_eq_some_iff.mp e1
    obtain ⟨b, hb, e2⟩ := Option.map_eq_some_iff.mp e1
    cases e2
    obtain ⟨t, ty, hk⟩ := isD_ty (C := wdOf X) T st.rep.ex (st.rep.deref (rv.vv hd) hd) hb
    exact ⟨v, Cy, t, b, rfl, ty, hk, fin (.bl b) H1 Hs1 st (by simp [RV, Rp])⟩
end
end VE
namespace VE
open PySem PySem.Spec PyProof.Rows L2 PySem.W
structure FnG (P : Program) (w : World) (K : PySem.W.Frag) (mg : Str → Option Value) (base : Heap) (k : Nat) (f : Addr) (fd : FuncData) (ps : List Str) (sp : Sp) : Prop where
  len : ∀ vs H Q E, sp vs H Q E → vs.length = ps.length
  run : ∀ (A : Around) (outer : List Env) (s : Shared) (H : Hp) (args : Args) (us : List Value) (vs : List V) (Q : VK) (E : XK), A.guards = some [] → Room k A → Env0 P w K mg base A outer s H → BindsTo s fd args (ps.zip us) → Vals vs us → sp vs H Q E →
    codeAny (model P w) A (.call (.ref f) args) (CR (L2.CX P w) outer P w H s Q E) s
theorem FnG.of {P : Program} {w : World} {K : PySem.W.Frag} {mg : Str → Option Value} {base : Heap} {k : Nat} {f : Addr} {fd : FuncData} {ps : List Str} {sp : Sp} (F : FnOk P w K mg base (L2.CX P w) k f fd ps sp) : FnG P w K mg base k f fd ps sp :=
  ⟨F.len, fun A outer s H args us vs Q E _ hr e b r h => F.run A outer s H args us vs Q E hr e b r h⟩
theorem ok_fnG {P : Program} {w : World} {K : PySem.W.Frag} {mg : Str → Option Value} {base : Heap} {x qual : Str} {st : Stmt} {f : Addr} {fd : FuncData} {N ps : List Str} {k : Nat} {B : SP} (F : Fun K x qual st f fd) (S : FnScope N ps (defScope st))
    (hb : ∀ (cdv : Value) (A : Around) (outer : List Env) (s : Shared) (H : Hp) (E : XK), (A.deeper (envOfC qual (defScope st) s.heap.objs.size f cdv)).guards = some [] → Room k (A.deeper (envOfC qual (defScope st) s.heap.objs.size f cdv)) →
      PSs (cxOf (L2.CX P w) P w K mg base N qual (defScope st) f cdv A outer s H E) (defBody st) (tS ⟨P, w, K, mg⟩ (fun cls d _ H' => E cls d H') B)) : FnG P w K mg base (k + 1) f fd ps (spF ⟨P, w, K, mg⟩ ps.length (semF ps.length N.length B)) := by
  obtain ⟨oc, od, kV, doc, pm, an, cdv, ct, osl, rfl, lk, hcd⟩ := F.ex
  refine ⟨fun vs H Q E h => h.1, fun A outer s H args us vs Q E gd room e0 bi rel want => ?_⟩
  have hl : vs.length = ps.length := want.1
  have inK : K.In s.heap := e0.mod.kin.keeps fun b o e => (e0.bs b o e).1
  have lim : s.heap.NoLimit := e0.mod.nolimit.keeps fun b o e => (e0.bs b o e).1
  refine codeAny_call_function room.depth (inK _ _ lk) rfl S.co S.gen rfl (PySem.W.codeRec_of inK hcd) (bi _ _ _ _ (wpAny_newFunctionEnv_cells S.kind (fun y hy => ?_) fun env he s1 x => ?_))
  · rcases S.par y.1 (List.of_mem_zip (b := y.2) hy).1 with q | q
    · exact .inl q
    · exact .inr ⟨q, PySem.W.cellsFrom_some _ _ _ (.inl q)⟩
  · subst he
    have np : ps.length ≤ N.length := by
      have := congrArg List.length S.pre
      rw [List.length_take] at this
      omega
    have inv : Inv (cxOf (L2.CX P w) P w K mg base N qual (defScope st) f cdv A outer s H E) [] (start N vs) H s1 := inv_start S room.hd e0 hl rel x
    refine ⟨lim.keeps x.toInCall.keep, codeAny_func (wpAny_mono ((hb cdv A outer s H E gd (room.deeper _)).run [] s1 (start N vs) H _ inv (sem_read np want)) (fun fl s' z => ?_) fun _ _ z => z)⟩
    match fl, z with
    | .ret u, ⟨v, σ', H', J, rv, q⟩ => exact ⟨v, H', J.os, J.bare, J.base, J.hok, rv, q⟩
    | .next, ⟨σ', H', J, q⟩ => exact ⟨V.non, H', J.os, J.bare, J.base, J.hok, rfl, q⟩
    | .brk, ⟨_, _, _, q⟩ => exact q.elim
    | .cont, ⟨_, _, _, q⟩ => exact q.elim
section
variable {X : Cx} {W : WX} {e : Expr} {es : List Expr} {pa : M (List Val)} {pos p0 : Pos} {k : Nat} {f : Addr} {fd : FuncData} {ps : List Str} {sp : Sp} {E : L2.St → XK} {x : Str} {t : TA} {n : Nat} {F : M Val}
theorem run_G {pins : List (Addr × Obj)} {σ : L2.St} {H : Hp} {s : Shared} {Q : VK} {us : List Value} {vs : List V} (G : FnG X.prog X.w X.K X.mg X.base k f fd ps sp) (gd : X.A.guards = some []) (room : Room k X.A) (bi : Binds X.K fd ps []) (out : PassesAt (L2.CX X.prog X.w) X σ (E σ)) (inv : Inv X pins σ H s) (rel : Vals vs us) (want : sp vs H Q (E σ)) :
    wpAny (model X.prog X.w) X.A (call (.ref f) us) (EP X pins σ Q) X.xe s := by
  have size : us.length = ps.length := rel.length.symm.trans (G.len _ _ _ _ want)
  have bind := bi s us inv.kIn (by rw [List.append_nil]; exact size)
  rw [List.append_nil] at bind
  refine wpAny_call (codeAny_mono (G.run X.A X.stack s H _ _ _ Q (E σ) gd room inv.env0 bind rel want) fun r s' end_ => ?_)
  match r, end_ with
  | .error er, end_ => exact out pins H s er s' inv end_
  | .ok (.ret u), end_ => exact inv.after end_
  | .ok .next, end_ => exact end_.elim
  | .ok .brk, end_ => exact end_.elim
  | .ok .cont, end_ => exact end_.elim
theorem pe_cG (G : FnG X.prog X.w X.K X.mg X.base k f fd ps sp) (gd : X.A.guards = some []) (room : Room k X.A) (hg : Gl X x) (hm : X.mg x = some (.ref f)) (hk : PySem.W.keepIn X.K (.ref f) = true) (bi : Binds X.K fd ps []) (out : ∀ σ, PassesAt (L2.CX X.prog X.w) X σ (E σ)) (args : PA X (e :: es) t)
    (hdb : (x == ("__debug__" : Str)) = false) (he : starEach (e :: es) X.env = (false, eval e X.env) :: starEach es X.env) (hpl : (backTo pos (starEach es X.env)).any (·.1) = false) : PE X (.Call (.Name x p0) (e :: es) [] pos) (tCallS sp E t) :=
  ⟨fun pins s σ H Q inv want => wpAny_Call_Name_kw (ld_glob inv hg hm (PySem.W.callWith_K (h₀ := X.base) inv.ok.mod.kin hk (thn (args.run pos pins s σ H _ inv want) fun us s1 ⟨vs, H1, inv1, r, q⟩ => ⟨inv1.kIn, run_G G gd room bi (out σ) inv1 r q⟩) he hpl) hdb)⟩
theorem x_callG (G : FnG X.prog X.w X.K X.mg X.base k f fd ps (spF (wdOf X) n F)) (gd : X.A.guards = some []) (hr : Room k X.A) (hg : Gl X x) (hm : X.mg x = some (.ref f)) (hk : PySem.W.keepIn X.K (.ref f) = true) (hb : Binds X.K fd ps []) (tk : Takes X W) (ha : PA X (e :: es) (tA (wdOf X) W pa))
    (hdb : (x == ("__debug__" : Str)) = false := by decide) (he : starEach (e :: es) X.env = (false, eval e X.env) :: starEach es X.env := by rfl) (hpl : (backTo pos (starEach es X.env)).any (·.1) = false := by rfl) : PE X (.Call (.Name x p0) (e :: es) [] pos) (tX (wdOf X) W (xdef n F pa)) :=
  pe_weak (pe_cG G gd hr hg hm hk hb (fun σ => passAt tk σ) ha hdb he hpl) fun _ _ _ h => tCall_read h
end
theorem law_start {P : Program} {w : World} {K : PySem.W.Frag} {mg mb : Str → Option Value} {a : Addr} {s : Shared} {vs : List Value} {ns : List Int} (inK : K.In s.heap) (glob : s.heap.Ns mainGlobals mg) (blt : s.heap.Ns builtinsNs mb) (boot : ∀ x : Str, x ≠ "__name__" → mb x = bootBuiltins x) (lim : s.heap.NoLimit) (gens : s.gens = #[])
    (at_ : s.heap.get? a = some { cls := .type "list", data := .seq vs.toArray }) (nsAre : IntsAre vs ns) (size : ns.length ≤ sizeLine) :
    ∃ (H : Hp) (base : Heap), K.In base ∧ base.Ns mainGlobals mg ∧ Env0 P w K mg base callerA [] s H ∧ Only H ∧ SqL K H a (ns.map V.int) := by
  have rel := vals_ints nsAre
  obtain ⟨H, only, seq, ok, here⟩ : ∃ H : Hp, Only H ∧ SqL K H a (ns.map V.int) ∧ HOk P w H s.heap ∧ ∀ b, H b = none ∨ (b = a ∧ K.lookup a = none) := by
    cases hk : K.lookup a with
    | some o =>
      have same := (inK a o hk).symm.trans at_
      cases same
      exact ⟨fun _ => none, fun _ => .inl rfl, .inr ⟨_, vs.toArray, _, hk, rfl, rfl, rfl, by rw [List.size_toArray, nsAre.length]; exact size, by simpa using rel⟩, fun b u z => (nomatch z), fun _ => .inl rfl⟩
    | none =>
      have one : ∀ b, (fun b => if b = a then some (HO.frz { cls := .type "list", data := .seq vs.toArray } (.lst (ns.map V.int))) else none : Hp) b = none ∨ (b = a ∧ True) := fun b => by
        by_cases z : b = a
        · exact .inr ⟨z, trivial⟩
        · exact .inl (if_neg z)
      refine ⟨fun b => if b = a then some (.frz { cls := .type "list", data := .seq vs.toArray } (.lst (ns.map V.int))) else none, fun b => ?_, .inl (.inr ⟨_, if_pos rfl⟩), fun b u z => ?_, fun b => ?_⟩
      · rcases one b with q | ⟨rfl, _⟩
        · exact .inl q
        · exact .inr ⟨_, _, if_pos rfl⟩
      · rcases one b with q | ⟨rfl, _⟩
        · rw [q] at z; cases z
        · have y := (if_pos rfl).symm.trans z
          cases y
          exact ⟨at_, by rw [List.length_map]; exact size, vs, _, rel, at_⟩
      · rcases one b with q | ⟨q, _⟩
        · exact .inl q
        · exact .inr ⟨q, rfl⟩
  have kept : ∀ {b : Addr} {m : Str → Option Value}, s.heap.Ns b m → (hidT s.heap H).Ns b m := fun {b m} ⟨o, es, ep, e, d, r⟩ => by
    refine ⟨o, es, ep, hidT_get e ?_, d, r⟩
    rcases here b with q | ⟨rfl, _⟩
    · exact q
    · rw [at_] at e
      cases e
      exact nomatch d
  have inB : K.In (hidT s.heap H) := fun b o e => by
    refine hidT_get (inK b o e) ?_
    rcases here b with q | ⟨rfl, q⟩
    · exact q
    · rw [q] at e; cases e
  obtain ⟨mc, l1, l2⟩ := lim
  exact ⟨H, hidT s.heap H, inB, kept glob, ⟨rfl, ⟨inB, kept glob, ⟨mb, kept blt, boot⟩, ⟨mc, kept l1, l2⟩⟩, fun b o e => of_hidT e, Nat.le_of_eq (hidT_size _ _), trivial, fun b hb => (by cases hb), ok, .of_eq gens⟩, only, seq⟩
theorem walk_ofG {l : PySem.W.OpenLaw} {n k : Nat} {q : Program} {loose : List Str} {XP : (Str → Option Value) → Heap → Prop} {YP : World → Heap → Prop} {d : DefRec} {K : Params → PySem.W.Frag} {sp : World → (Str → Option Value) → Sp} {x : Str}
    (most : l.most = some n) (fits : n ≤ sizeLine) (plain : d.params.defaults = []) (room : Room k callerA) (known : ∀ (w : World) (h : Heap), YP w h → (K w.params).In h)
    (F : ∀ (w : World) (mg : Str → Option Value) (fa : Addr) (h : Heap), (K w.params).In h → h.Ns mainGlobals mg → mg d.name = some (.ref fa) →
      ∃ fd : FuncData, (∀ (s : Shared) (u : Value), BindsTo s fd ⟨[u], []⟩ [(x, u)]) ∧ ∀ base : Heap, (K w.params).In base → base.Ns mainGlobals mg → FnG l.prog w (K w.params) mg base k fa fd [x] (sp w mg))
    (want : ∀ (w : World) (mg : Str → Option Value) (H : Hp) (a : Addr) (ns : List Int), ns.length ≤ n → (∀ z ∈ ns, Builtin.Int.intBits z ≤ 1048576) → SqL (K w.params) H a (ns.map V.int) → sp w mg [.ref a] H (fun v _ => v = .bl true) E0) : PySem.W.WalkO q loose XP YP l.row.toRowW d [] (fun f vs => PySem.call f vs) := by
  refine Att.attach_callB most plain fun w s₀ s mg mb fa o pm cd doc a vs ns G Y ho hd hcd hmg at_ nsAre len bits gens => ?_
  have inK := known w _ Y
  obtain ⟨fd, bi, ok⟩ := F w mg fa _ inK G.T.g hmg
  obtain ⟨H, base, b1, b2, e0, only, seq⟩ := law_start (P := l.prog) (w := w) inK G.T.g G.T.b G.T.builtins G.T.nolimit gens at_ nsAre (Nat.le_trans len fits)
  have rl : Vals [V.ref a] [Value.ref a] := .cons rfl .nil
  refine codeAny_mono ((ok base b1 b2).run callerA [] s H ⟨[.ref a], []⟩ [.ref a] [.ref a] _ E0 rfl room e0 (bi s (.ref a)) rl (want w mg H a ns len bits seq)) fun r s' z => ?_
  match r, z with
  | .error er, z =>
    obtain ⟨_, _, _, _, _, _, _, _, _, _, _, _, y⟩ := z
    exact y.elim
  | .ok (.ret u), ⟨v, H', os, bare, un, ok', rv, q⟩ =>
    subst q
    cases (show u = Value.bool true from rv)
    refine ⟨rfl, OldK.of_keep fun b o e => ?_, os, bare⟩
    rcases only b with n | ⟨ob, xs, n⟩
    · exact un.keep b o e n (fun y => nomatch y) (fun y => nomatch y)
    · have e1 := (e0.hok b _ n).1
      have e2 := (ok' b _ (un.frzs b ob _ n)).1
      rw [e] at e1; cases e1
      exact e2
  | .ok .next, z => exact z.elim
  | .ok .brk, z => exact z.elim
  | .ok .cont, z => exact z.elim
end VE
namespace VE
open PySem PySem.Spec PyProof.Rows L2 PySem.W
def rRepr (K : PySem.W.Frag) : List V → Hp → VK → Prop := fun xs H Q => ∃ (x : V) (p : PyData), xs = [x] ∧ Dp K H x p ∧ p.showable = true ∧ p.hasDict = false ∧ p.depth ≤ 60 ∧ p.shown.length ≤ sizeLine ∧ Q (.str p.shown) H
def reprD : List D → Option Val
  | [d] => (toPy d).bind fun p => if p.showable = true ∧ p.hasDict = false ∧ p.depth ≤ 60 ∧ p.shown.length ≤ sizeLine then some (.fz (.str p.shown)) else none
  | _ => none
section
variable {X : Cx} {C : Wd} {W : WX} {e : Expr} {es : List Expr} {pa : M (List Val)} {pos p0 : Pos}
theorem callG_repr (gd : X.A.guards = some []) (hu : X.A.units + 65 < cLine) : CallR X (.builtin "repr") (rRepr X.K) := by
  intro pins s σ H xs us Q I r h
  obtain ⟨x, p, rfl, hd, hs, hn, hp, hl, q⟩ := h
  obtain ⟨u, rfl, ru⟩ := vals1 r
  obtain ⟨as, rd⟩ := Dp.reads I p x u hd ru
  have ref : ∀ {a : Addr}, u = .ref a → wpAny (model X.prog X.w) X.A (call (.builtin "repr") [u]) (EP X pins σ Q) X.xe s := fun {a} e => by
    subst e
    exact repr_of_reads' rd hs (PyData.noDict_hsm hn) gd (by omega) (fun _ _ z => z) (fun h' t tk keep => ⟨.str p.shown, H, I.kept keep, ⟨t, rfl⟩, q⟩) hl
  cases rd with
  | none =>
    refine PySem.P.repr_of_none ⟨.str _, H, I.tok _, ⟨_, rfl⟩, ?_⟩
    simpa only [PyData.shown] using q
  | bool b =>
    refine PySem.P.repr_of_bool ⟨.str _, H, I.tok _, ⟨_, rfl⟩, ?_⟩
    simpa only [PyData.shown] using q
  | int i t =>
    refine PySem.P.repr_of_int (of_decide_eq_true (by simpa only [PyData.showable] using hs)) ⟨.str _, H, I.tok _, ⟨_, rfl⟩, ?_⟩
    simpa only [PyData.shown] using q
  | str y t =>
    simp only [PyData.shown] at hl
    refine PySem.P.repr_of_str ⟨.str _, H, I.tok _, ⟨_, rfl⟩, ?_⟩ hl
    simpa only [PyData.shown] using q
  | list h1 h2 h3 h4 => exact ref rfl
  | tuple h1 h2 h3 h4 => exact ref rfl
  | dict h1 h2 h3 h4 h5 => exact ref rfl
theorem callT_repr : CallT C (rRepr C.K) reprD := by
  intro Hs H xs ds val Q ex h g k
  unfold reprD at g
  split at g
  case h_2 => cases g
  rename_i d
  obtain ⟨p, hp, g⟩ := Option.bind_eq_some_iff.mp g
  split at g
  case isFalse => cases g
  rename_i hc
  cases g
  obtain ⟨v, rfl, q⟩ := h.one
  exact ⟨v, p, rfl, q.dp ex hp, hc.1, hc.2.1, hc.2.2.1, hc.2.2.2, atom_end ex k (by simp only [Rp])⟩
theorem x_repr (gd : X.A.guards = some []) (hu : X.A.units + 65 < cLine) (hgl : Gl X "repr") (hm : X.mg "repr" = none) (ha : PA X (e :: es) (tA (wdOf X) W pa))
    (he : starEach (e :: es) X.env = (false, eval e X.env) :: starEach es X.env := by rfl) (hpl : (backTo pos (starEach es X.env)).any (·.1) = false := by rfl) : PE X (.Call (.Name "repr" p0) (e :: es) [] pos) (tX (wdOf X) W (xB reprD pa)) :=
  x_B (pe_callB (callG_repr gd hu) hgl hm (show bootBuiltins "repr" = some (.builtin "repr") from PyProof.Rows.Boot.«repr») ha (by decide) (by decide) he hpl) callT_repr
end
end VE
namespace VE
open PySem PySem.Spec PyProof.Rows L2
def lc2In (vs1 : List Nat) (t1 : TgD) (c1 : M Bool) (el : M Val) : List D → List D → SE → Option (List D × SE)
  | [], acc, env => some (acc, env)
  | d :: ds, acc, env => if okV env vs1 = true then (t1 d (wipeE env vs1)).bind fun e1 => match c1 e1 with
      | some (.ok true e2) => (match el e2 with
        | some (.ok (.fz y) e3) => if acc.length < 50000 then lc2In vs1 t1 c1 el ds (acc ++ [y]) (restE env e3 vs1) else none
        | _ => none)
      | some (.ok false e2) => lc2In vs1 t1 c1 el ds acc (restE env e2 vs1)
      | _ => none
    else none
def lc2Run (e0 : SE) (vs vs1 : List Nat) (t : TgD) (c : M Bool) (it1 : M (List D)) (t1 : TgD) (c1 : M Bool) (el : M Val) : List D → List D → SE → Option (Out Val)
  | [], acc, env => some (.ok (.fr (.lst acc)) env)
  | d :: ds, acc, env => if okV env vs = true then (t d (wipeE env vs)).bind fun e1 => match c e1 with
      | some (.ok true e2) => (match it1 e2 with
        | some (.ok ds1 e3) => (lc2In vs1 t1 c1 el ds1 acc e3).bind fun q => lc2Run e0 vs vs1 t c it1 t1 c1 el ds q.1 (restE e0 q.2 vs)
        | _ => none)
      | some (.ok false e2) => lc2Run e0 vs vs1 t c it1 t1 c1 el ds acc (restE e0 e2 vs)
      | _ => none
    else none
def xLc2 (it : M (List D)) (vs vs1 : List Nat) (t : TgD) (c : M Bool) (it1 : M (List D)) (t1 : TgD) (c1 : M Bool) (el : M Val) : M Val := fun env => match it env with
  | some (.ok ds e) => if okV e vs = true then lc2Run e vs vs1 t c it1 t1 c1 el ds [] e else none
  | some (.exc x d e) => some (.exc x d e)
  | none => none
section
variable {C : Wd} {Hs H Hs' H' : Hp} {σ σ2 : L2.St} {env env' e2 : SE} {vs : List Nat}
theorem own_wiped {a : Addr} (ok : okV env vs = true) (h : Own H σ env a) : Own H (L2.wipe σ vs) (wipeE env vs) a := by
  obtain ⟨j, b, c, e1, e2, e3, e4⟩ := h
  have nj : j ∉ vs := fun z => by rw [okV_at ok z e1] at e2; cases e2
  exact ⟨j, b, c, by rw [wipeE_out nj]; exact e1, e2, by rw [wipe_out nj]; exact e3, e4⟩
theorem Stp.wiped (s : Stp C Hs H σ env Hs' H' σ env') (ok : okV env vs = true) : Stp C Hs H (L2.wipe σ vs) (wipeE env vs) Hs' H' (L2.wipe σ vs) (wipeE env' vs) :=
  ⟨s.ex, s.rep.wipe, fun a o h1 h2 h3 => by
    obtain ⟨k1, k2, k3⟩ := s.fr a o h1 h2 fun z => h3 (own_wiped ok z)
    exact ⟨k1, k2, fun z => k3 (own_wipe z)⟩, fun j d' e => by
    obtain ⟨nj, e1⟩ := wipeE_at e
    obtain ⟨q1, d, q2⟩ := s.io j d' e1
    exact ⟨rfl, d, by rw [wipeE_out nj]; exact q2⟩⟩
theorem own_rest {a : Addr} (ok : okV env vs = true) (out : ∀ j, j ∉ vs → σ2[j]? = σ[j]?) (h : Own H σ (restE env e2 vs) a) : Own H σ2 e2 a := by
  obtain ⟨j, b, c, h1, h2, h3, h4⟩ := h
  rcases restE_at h1 with ⟨z, q⟩ | ⟨z, q⟩
  · rw [okV_at ok z q] at h2; cases h2
  · exact ⟨j, b, c, q, h2, by rw [out j z]; exact h3, h4⟩
end
theorem lc2_read {C : Wd} {W : WX} {it it1 : M (List D)} {vs vs1 ids ids1 : List Nat} {t t1 : TgD} {c c1 : M Bool} {el : M Val} {σ : L2.St} {H : Hp} {Q : VK} (hs : ∀ j, j ∈ ids → j ∈ vs) (hs1 : ∀ j, j ∈ ids1 → j ∈ vs1) (h : Tm C W (RVx C) (xLc2 it vs vs1 t c it1 t1 c1 el) σ H Q) :
    tLc2 (tI C W it) (tG C ids t) (tT C WNo c) (tI C WNo it1) (tG C ids1 t1) (tT C WNo c1) (tX C WNo el) vs vs1 σ H Q := by
  obtain ⟨env, Hs, r1, rp, e, fin⟩ := h
  unfold xLc2 at e
  cases hp : it env with
  | none => rw [hp] at e; cases e
  | some o =>
    rw [hp] at e
    cases o with
    | exc x d env1 => cases e; exact ⟨env, Hs, _, rp, hp, fin⟩
    | ok ds env1 =>
      have e : (if okV env1 vs = true then lc2Run env1 vs vs1 t c it1 t1 c1 el ds [] env1 else none) = some r1 := e
      split at e
      case isFalse => cases e
      rename_i ok1
      refine ⟨env, Hs, _, rp, hp, fun J SH H1 Hs1 st iv sh Dl hD => ?_⟩
      have hN : Hs1 Dl = none := xBack st.rep.ex hD
      have hW : ¬ Own H1 σ env1 Dl := fun z => by
        obtain ⟨_, u, hu⟩ := Own.there st.rep z
        rw [hD] at hu; cases hu
      refine ⟨fun i m H' => m = ds.length - i ∧ i ≤ ds.length ∧ ∃ Hs' env' acc xs, Stp C Hs1 H1 σ env1 Hs' H' σ env' ∧ SH Hs' H' σ env' ∧ H' Dl = some (.lst xs) ∧ Hs' Dl = none ∧ ¬ Own H' σ env' Dl ∧ RpL C Hs' acc xs ∧ lc2Run env1 vs vs1 t c it1 t1 c1 el (ds.drop i) acc env' = some r1,
        ⟨ds.length, by simp, Nat.zero_le _, Hs1, env1, [], [], (Stp.refl st.rep).bump hD hN hW, iv.keep sh (Ex.refl _), upd_same, hN, Own.bump st.rep hN hW, RpL.nil, e⟩, ?_⟩
      rintro i m H' ⟨rfl, hi, Hs', env', acc, xs, s', sh', hDl, nD, wD, hacc, e'⟩
      by_cases hlt : i < ds.length
      · refine .inr ⟨iv.go sh' s'.rep.ex hlt, _, fun H2 n2 => ⟨ds.length - (i + 1), by omega, n2⟩, fun x H2 y => ?_⟩
        obtain ⟨d, Hs2, hd, g, hx⟩ := iv.yld sh' s'.rep.ex y hlt
        have sg := Stp.grow s'.rep g
        have hdrop : ds.drop i = d :: ds.drop (i + 1) := by
          rw [List.drop_eq_getElem_cons hlt]
          rw [List.getElem?_eq_getElem hlt] at hd
          rw [Option.some.inj hd]
        rw [hdrop] at e'
        unfold lc2Run at e'
        split at e'
        case isFalse => cases e'
        rename_i hok
        obtain ⟨e1, ht, e'⟩ := Option.bind_eq_some_iff.mp e'
        refine ⟨_, Hs2, d, e1, sg.rep.wipe, hx, ht, fun σ2 Hs3 s3 ap => ?_⟩
        obtain ⟨hw, out⟩ := wipe_apart hs ap
        have hl2 : σ2.length = σ.length := by rw [ap.1, wipe_length]
        refine ⟨hw, ?_⟩
        -- from where nothing of the list was there, to here, in the block
        have base : Stp C Hs1 H1 (L2.wipe σ vs) (wipeE env1 vs) Hs3 H2 σ2 e1 := ((s'.trans sg).wiped ok1).trans s3
        have dl3 : H2 Dl = some (.lst xs) ∧ Hs3 Dl = none ∧ ¬ Own H2 σ2 e1 Dl := ((sg.wiped hok).trans s3).fr Dl _ hDl nD fun z => wD (own_wipe z)
        have acc3 : RpL C Hs3 acc xs := RpL.mono ((sg.wiped hok).trans s3).ex _ _ hacc
        have sh3 : SH Hs3 H2 σ2 e1 := iv.keep sh' ((sg.wiped hok).trans s3).ex
        -- behind the block
        have back : ∀ {Hs4 H4 : Hp} {e4 : SE} {acc4 : List D} {xs4 : List V}, Stp C Hs1 H1 (L2.wipe σ vs) (wipeE env1 vs) Hs4 H4 σ2 e4 → Ex Hs3 Hs4 → H4 Dl = some (.lst xs4) → Hs4 Dl = none → ¬ Own H4 σ2 e4 Dl → RpL C Hs4 acc4 xs4 → lc2Run env1 vs vs1 t c it1 t1 c1 el (ds.drop (i + 1)) acc4 (restE env1 e4 vs) = some r1 →
            ds.length - (i + 1) = ds.length - (i + 1) ∧ i + 1 ≤ ds.length ∧ ∃ Hs' env' acc xs, Stp C Hs1 H1 σ env1 Hs' H4 σ env' ∧ SH Hs' H4 σ env' ∧ H4 Dl = some (.lst xs) ∧ Hs' Dl = none ∧ ¬ Own H4 σ env' Dl ∧ RpL C Hs' acc xs ∧ lc2Run env1 vs vs1 t c it1 t1 c1 el (ds.drop (i + 1)) acc env' = some r1 :=
          fun {Hs4 H4 e4 acc4 xs4} s4 ex h1 h2 h3 h4 h5 => ⟨rfl, by omega, Hs4, restE env1 e4 vs, acc4, xs4, Stp.block st.rep ok1 s4 hl2 out, iv.keep sh3 ex, h1, h2, fun z => h3 (own_rest ok1 out z), h4, h5⟩
        cases hc : c e1 with
        | none => rw [hc] at e'; cases e'
        | some oc =>
          rw [hc] at e'
          refine ⟨e1, Hs3, oc, s3.rep, hc, ?_⟩
          cases oc with
          | exc x d e2 => cases e'
          | ok k e2 =>
            intro kv H4 Hs4 s4 ek
            cases (show k = kv from ek)
            have dl4 := s4.fr Dl _ dl3.1 dl3.2.1 dl3.2.2
            cases k with
            | false =>
              have e' : lc2Run env1 vs vs1 t c it1 t1 c1 el (ds.drop (i + 1)) acc (restE env1 e2 vs) = some r1 := e'
              exact back (base.trans s4) s4.ex dl4.1 dl4.2.1 dl4.2.2 (RpL.mono s4.ex _ _ acc3) e'
            | true =>
              have e' : (match it1 e2 with
                | some (.ok ds1 e3) => (lc2In vs1 t1 c1 el ds1 acc e3).bind fun q => lc2Run env1 vs vs1 t c it1 t1 c1 el (ds.drop (i + 1)) q.1 (restE env1 q.2 vs)
                | _ => none) = some r1 := e'
              show tI C WNo it1 σ2 H4 _
              cases hit : it1 e2 with
              | none => rw [hit] at e'; cases e'
              | some oi =>
                rw [hit] at e'
                cases oi with
                | exc x d e3 => cases e'
                | ok ds1 e3 =>
                  refine ⟨e2, Hs4, _, s4.rep, hit, fun J1 SH1 H5 Hs5 s5 iv1 sh1 => ?_⟩
                  obtain ⟨⟨accF, eF⟩, hin, e'⟩ := Option.bind_eq_some_iff.mp (show (lc2In vs1 t1 c1 el ds1 acc e3).bind _ = some r1 from e')
                  have dl5 := s5.fr Dl _ dl4.1 dl4.2.1 dl4.2.2
                  refine ⟨fun j k H' => k = ds1.length - j ∧ j ≤ ds1.length ∧ ∃ Hs' f acc xs, Stp C Hs1 H1 (L2.wipe σ vs) (wipeE env1 vs) Hs' H' σ2 f ∧ Ex Hs3 Hs' ∧ SH1 Hs' H' σ2 f ∧ H' Dl = some (.lst xs) ∧ Hs' Dl = none ∧ ¬ Own H' σ2 f Dl ∧ RpL C Hs' acc xs ∧ lc2In vs1 t1 c1 el (ds1.drop j) acc f = some (accF, eF),
                    ⟨ds1.length, by simp, Nat.zero_le _, Hs5, e3, acc, xs, (base.trans s4).trans s5, s4.ex.trans s5.ex, sh1, dl5.1, dl5.2.1, dl5.2.2, RpL.mono (s4.ex.trans s5.ex) _ _ acc3, hin⟩, ?_⟩
                  rintro j k H6 ⟨rfl, hj, Hs6, f, acc6, xs6, s6, ex6, sh6, dA, dB, dC, hac, e6⟩
                  by_cases hlj : j < ds1.length
                  · refine .inr ⟨iv1.go sh6 s6.rep.ex hlj, _, fun H2 n2 => ⟨ds1.length - (j + 1), by omega, n2⟩, fun x1 H7 y1 => ?_⟩
                    obtain ⟨d1, Hs7, hd1, g7, hx7⟩ := iv1.yld sh6 s6.rep.ex y1 hlj
                    have sg7 := Stp.grow s6.rep g7
                    have hdrop1 : ds1.drop j = d1 :: ds1.drop (j + 1) := by
                      rw [List.drop_eq_getElem_cons hlj]
                      rw [List.getElem?_eq_getElem hlj] at hd1
                      rw [Option.some.inj hd1]
                    rw [hdrop1] at e6
                    unfold lc2In at e6
                    split at e6
                    case isFalse => cases e6
                    rename_i hok7
                    obtain ⟨f1, ht7, e6⟩ := Option.bind_eq_some_iff.mp e6
                    refine ⟨_, Hs7, d1, f1, sg7.rep.wipe, hx7, ht7, fun σ3 Hs8 s8 ap8 => ?_⟩
                    obtain ⟨hw8, out8⟩ := wipe_apart hs1 ap8
                    have hl8 : σ3.length = σ2.length := by rw [ap8.1, wipe_length]
                    refine ⟨hw8, ?_⟩
                    have lift : ∀ {Hs9 H9 : Hp} {f9 : SE}, Stp C Hs8 H7 σ3 f1 Hs9 H9 σ3 f9 → Stp C Hs1 H1 (L2.wipe σ vs) (wipeE env1 vs) Hs9 H9 σ2 (restE f f9 vs1) ∧ Ex Hs3 Hs9 ∧ SH1 Hs9 H9 σ2 (restE f f9 vs1) ∧ H9 Dl = some (.lst xs6) ∧ Hs9 Dl = none ∧ ¬ Own H9 σ2 (restE f f9 vs1) Dl ∧ RpL C Hs9 acc6 xs6 := fun {Hs9 H9 f9} s9 => by
                      have sb := Stp.block sg7.rep hok7 (s8.trans s9) hl8 out8
                      have sD := (sg7.trans sb).fr Dl _ dA dB dC
                      exact ⟨s6.trans (sg7.trans sb), ex6.trans (sg7.trans sb).ex, iv1.keep sh6 (sg7.trans sb).ex, sD.1, sD.2.1, sD.2.2, RpL.mono (sg7.trans sb).ex _ _ hac⟩
                    cases hc8 : c1 f1 with
                    | none => rw [hc8] at e6; cases e6
                    | some oc =>
                      rw [hc8] at e6
                      refine ⟨f1, Hs8, oc, s8.rep, hc8, ?_⟩
                      cases oc with
                      | exc x d e2 => cases e6
                      | ok k f2 =>
                        intro kv H9 Hs9 s9 ek
                        cases (show k = kv from ek)
                        cases k with
                        | false =>
                          have e6 : lc2In vs1 t1 c1 el (ds1.drop (j + 1)) acc6 (restE f f2 vs1) = some (accF, eF) := e6
                          obtain ⟨q1, q2, q3, q4, q5, q6, q7⟩ := lift s9
                          exact ⟨rfl, by omega, Hs9, _, acc6, xs6, q1, q2, q3, q4, q5, q6, q7, e6⟩
                        | true =>
                          have e6 : (match el f2 with
                            | some (.ok (.fz y) f3) => if acc6.length < 50000 then lc2In vs1 t1 c1 el (ds1.drop (j + 1)) (acc6 ++ [y]) (restE f f3 vs1) else none
                            | _ => none) = some (accF, eF) := e6
                          show tX C WNo el σ3 H9 _
                          cases hel : el f2 with
                          | none => rw [hel] at e6; cases e6
                          | some oe =>
                            rw [hel] at e6
                            refine ⟨f2, Hs9, oe, s9.rep, hel, ?_⟩
                            cases oe with
                            | exc x d e3 => cases e6
                            | ok val f3 =>
                              cases val with
                              | fr _ => cases e6
                              | bor _ => cases e6
                              | fz yv =>
                                have e6 : (if acc6.length < 50000 then lc2In vs1 t1 c1 el (ds1.drop (j + 1)) (acc6 ++ [yv]) (restE f f3 vs1) else none) = some (accF, eF) := e6
                                split at e6
                                case isFalse => cases e6
                                rename_i hlen
                                intro v H10 Hs10 s10 rv
                                obtain ⟨q1, q2, q3, q4, q5, q6, q7⟩ := lift (s9.trans s10)
                                have hz : xs6.length < sizeLine := Nat.lt_of_lt_of_le (by rw [hac.length]; omega) (by decide : 50001 ≤ sizeLine)
                                exact ⟨xs6, q4, hz, rfl, by omega, Hs10, _, acc6 ++ [yv], xs6 ++ [v], q1.bump hD q5 q6, q2, iv1.keep q3 (Ex.refl _), upd_same, q5, Own.bump q1.rep q5 q6, q7.append (RpL.cons rv RpL.nil), e6⟩
                  · have hij : j = ds1.length := by omega
                    subst hij
                    rw [List.drop_length] at e6
                    have e6 : some (acc6, f) = some (accF, eF) := e6
                    cases e6
                    exact .inl ⟨iv1.stop sh6 s6.rep.ex (Nat.le_refl _), back s6 ex6 dA dB dC hac e'⟩
      · have hil : i = ds.length := by omega
        subst hil
        rw [List.drop_length] at e'
        cases e'
        have own : OwnAt C Hs' H' (.lst acc) Dl := ⟨xs, hDl, hacc⟩
        refine .inl ⟨iv.stop sh' s'.rep.ex (Nat.le_refl _), fin _ H' Hs' (st.trans s') ⟨Dl, rfl, Held.one own nD, fun x hx => ?_⟩⟩
        rw [own.tree.2] at hx
        cases List.mem_singleton.mp hx
        refine ⟨wD, fun u h1 h2 => ?_⟩
        by_cases z : Own H σ env Dl
        · exact z
        · have := (st.fr Dl u h1 h2 z).1
          rw [hD] at this; cases this
section
variable {X : Cx} {W : WX} {e : Expr} {vs vs1 ids ids1 : List Nat} {it it1 : M (List D)} {t t1 : TgD} {c c1 : M Bool} {el : M Val}
theorem x_lc2 (h : PE X e (tLc2 (tI (wdOf X) W it) (tG (wdOf X) ids t) (tT (wdOf X) WNo c) (tI (wdOf X) WNo it1) (tG (wdOf X) ids1 t1) (tT (wdOf X) WNo c1) (tX (wdOf X) WNo el) vs vs1)) (hs : ∀ j, j ∈ ids → j ∈ vs) (hs1 : ∀ j, j ∈ ids1 → j ∈ vs1) :
    PE X e (tX (wdOf X) W (xLc2 it vs vs1 t c it1 t1 c1 el)) := pe_weak h fun _ _ _ q => lc2_read hs hs1 q
end
end VE
namespace VE
open PySem PySem.Spec PyProof.Rows L2
def pick {α : Type} (π : List Nat) (l : List α) : List α := π.filterMap (l[·]?)
section
variable {X : Cx} {C : Wd} {W : WX} {e a b c : Expr} {es : List Expr} {p q p3 : M Val} {pa : M (List Val)} {pos p0 kpos : Pos} {k n m : Nat} {f : Addr} {fd : FuncData} {ps ks : List Str} {sp : Sp} {E : L2.St → XK} {x : Str} {t : TA} {F : M Val} {kws : List Keyword} {nm : Option Str} {π : List Nat}
theorem RVs.pick {Hs : Hp} {σ : L2.St} {l : List Val} {vs : List V} (h : RVs C Hs σ l vs) : ∀ π : List Nat, RVs C Hs σ (pick π l) (pick π vs)
  | [] => rfl
  | i :: π => by
    have ih := RVs.pick h π
    unfold VE.pick at ih ⊢
    rw [List.filterMap_cons, List.filterMap_cons]
    cases hl : l[i]? with
    | none =>
      have hv : vs[i]? = none := by
        rw [List.getElem?_eq_none_iff] at hl ⊢
        rw [h.length]; exact hl
      rw [hv]; exact ih
    | some a =>
      obtain ⟨v, hv, r⟩ := h.get hl
      rw [hv]
      exact ⟨v, _, rfl, r, ih⟩
theorem vals_pick {vs : List V} {us : List Value} (h : Vals vs us) : ∀ π : List Nat, Vals (VE.pick π vs) (VE.pick π us)
  | [] => .nil
  | i :: π => by
    have ih := vals_pick h π
    have at_ : ∀ {vs : List V} {us : List Value} (i : Nat), Vals vs us → (vs[i]? = none ∧ us[i]? = none) ∨ ∃ v u, vs[i]? = some v ∧ us[i]? = some u ∧ RelV v u := by
      intro vs us i h
      induction h generalizing i with
      | nil => exact .inl ⟨by simp, by simp⟩
      | cons r _ ih =>
        cases i with
        | zero => exact .inr ⟨_, _, rfl, rfl, r⟩
        | succ i => simpa using ih i
    unfold VE.pick at ih ⊢
    rw [List.filterMap_cons, List.filterMap_cons]
    rcases at_ i h with ⟨h1, h2⟩ | ⟨v, u, h1, h2, r⟩
    · rw [h1, h2]; exact ih
    · rw [h1, h2]; exact .cons r ih
theorem pk_weak {t t' : TA} (h : PK X kws t) (w : ∀ σ H Q, t' σ H Q → t σ H Q) : PK X kws t' := ⟨fun pos pins s σ H Q I z => h.run pos pins s σ H Q I (w σ H Q z)⟩
theorem k_nil : PK X [] (tA (wdOf X) W aNil) := pk_weak pk_nil fun σ H Q ⟨env, Hs, r1, rp, e, fin⟩ => by
  cases e
  exact fin [] H Hs (Stp.refl rp) rfl
theorem k_cons (ha : PE X e (tX (wdOf X) W p)) (hr : PK X kws (tA (wdOf X) W pa)) : PK X (⟨nm, e, kpos⟩ :: kws) (tA (wdOf X) W (aCons p pa)) :=
  pk_weak (pk_cons ha hr) fun σ H Q ⟨env, Hs, r1, rp, e, fin⟩ => by
    refine Tm.bindAt rp e fin fun va env1 v H1 Hs1 hp st rv e1 => ?_
    have go : ∀ {va : Val}, (pa.bind fun r => M.pure (va :: r)) env1 = some r1 → (∀ {H2 Hs2 : Hp} {env2 : SE}, Stp (wdOf X) Hs1 H1 σ env1 Hs2 H2 σ env2 → VV (wdOf X) Hs2 σ va v) → tA (wdOf X) W pa σ H1 fun vs H2 => Q (v :: vs) H2 := fun {va} e1 later =>
      Tm.bindAt st.rep e1 (laterA st fin) fun vs env2 us H2 Hs2 hq st2 rv2 e2 => by
        cases e2
        exact fin _ H2 Hs2 (st.trans st2) ⟨_, _, rfl, later st2, rv2⟩
    cases va with
    | fr d => cases e1
    | fz d => exact go (va := .fz d) e1 fun s => Rp.mono s.ex _ _ rv
    | bor i => exact go (va := .bor i) e1 fun _ => rv
def BindsN (K : PySem.W.Frag) (fd : FuncData) (ps ks : List Str) (π : List Nat) : Prop := ∀ (s : Shared) (ws : List Value), K.In s.heap → ws.length = ks.length → BindsTo s fd ⟨[], ks.zip ws⟩ (ps.zip (pick π ws))
def tCallN (ks : List Str) (π : List Nat) (sp : Sp) (E : L2.St → XK) (tk : TA) : TE := fun σ H Q => tk σ H fun zs H1 => zs.length = ks.length ∧ sp (pick π zs) H1 Q (E σ)
theorem run_N {pins : List (Addr × Obj)} {σ : L2.St} {H : Hp} {s : Shared} {Q : VK} {ws : List Value} {zs : List V} (G : FnOk X.prog X.w X.K X.mg X.base (L2.CX X.prog X.w) k f fd ps sp) (room : Room k X.A) (bi : BindsN X.K fd ps ks π) (out : PassesAt (L2.CX X.prog X.w) X σ (E σ)) (inv : Inv X pins σ H s) (rel : Vals zs ws) (hl : zs.length = ks.length)
    (want : sp (pick π zs) H Q (E σ)) : wpAny (model X.prog X.w) X.A (call (.ref f) [] (ks.zip ws)) (EP X pins σ Q) X.xe s := by
  refine wpAny_call (codeAny_mono (G.run X.A X.stack s H _ _ _ Q (E σ) room inv.env0 (bi s ws inv.kIn (by rw [← rel.length]; exact hl)) (vals_pick rel π) want) fun r s' end_ => ?_)
  match r, end_ with
  | .error er, end_ => exact out pins H s er s' inv end_
  | .ok (.ret u), end_ => exact inv.after end_
  | .ok .next, end_ => exact end_.elim
  | .ok .brk, end_ => exact end_.elim
  | .ok .cont, end_ => exact end_.elim
theorem pe_cN {tk : TA} (G : FnOk X.prog X.w X.K X.mg X.base (L2.CX X.prog X.w) k f fd ps sp) (room : Room k X.A) (hg : Gl X x) (hm : X.mg x = some (.ref f)) (hk : PySem.W.keepIn X.K (.ref f) = true) (bi : BindsN X.K fd ps ks π) (out : ∀ σ, PassesAt (L2.CX X.prog X.w) X σ (E σ)) (names : PK X kws tk)
    (hall : (backToKw pos (keywordEach kws X.env)).all (·.1.isSome) = true) (hks : (backToKw pos (keywordEach kws X.env)).filterMap (·.1) = ks) (hdb : (x == ("__debug__" : Str)) = false) (hpl : ((backTo pos (starEach [] X.env)).any (·.1) || (backToKw pos (keywordEach kws X.env)).any (·.1.isNone)) = false) :
    PE X (.Call (.Name x p0) [] kws pos) (tCallN ks π sp E tk) :=
  ⟨fun pins s σ H Q inv want => wpAny_Call_Name_kw (ld_glob inv hg hm (PySem.W.callWith_KW0 (h₀ := X.base) inv.ok.mod.kin hk hall (thn (names.run pos pins s σ H _ inv want) fun ws s1 ⟨zs, H1, inv1, r, hl, q⟩ => ⟨inv1.kIn, by
    rw [hks]
    exact run_N G room bi (out σ) inv1 r hl q⟩) hpl) hdb)⟩
def xNam (m n : Nat) (π : List Nat) (F : M Val) (pk : M (List Val)) : M Val := pk.bind fun z env => if z.length = m then callE n F (pick π z) env else none
theorem x_callN (G : FnOk X.prog X.w X.K X.mg X.base (L2.CX X.prog X.w) k f fd ps (spF (wdOf X) n F)) (hr : Room k X.A) (hg : Gl X x) (hm : X.mg x = some (.ref f)) (hk : PySem.W.keepIn X.K (.ref f) = true) (hb : BindsN X.K fd ps ks π) (tk : Takes X W) (names : PK X kws (tA (wdOf X) W pa)) (hml : m = ks.length := by rfl)
    (hall : (backToKw pos (keywordEach kws X.env)).all (·.1.isSome) = true := by rfl) (hks : (backToKw pos (keywordEach kws X.env)).filterMap (·.1) = ks := by rfl) (hdb : (x == ("__debug__" : Str)) = false := by decide) (hpl : ((backTo pos (starEach [] X.env)).any (·.1) || (backToKw pos (keywordEach kws X.env)).any (·.1.isNone)) = false := by rfl) :
    PE X (.Call (.Name x p0) [] kws pos) (tX (wdOf X) W (xNam m n π F pa)) :=
  pe_weak (pe_cN G hr hg hm hk hb (fun σ => passAt tk σ) names hall hks hdb hpl) fun σ H Q ⟨env, Hs, r1, rp, e, fin⟩ => by
    refine Tm.bindAt rp e fin fun l env1 vs H1 Hs1 hp st rv e1 => ?_
    split at e1
    case isFalse => cases e1
    rename_i hl
    exact ⟨by rw [rv.length, hl, hml], call_at st.rep (rv.pick π) e1 (laterX st fin)⟩
def sPar3 (i j l : Nat) (p q r : M Val) : SP := sWith p fun v => sWith q fun u => sWith r fun w env => (stow i v env).bind fun e1 => (stow j u e1).bind fun e2 => (stow l w e2).map .nx
theorem RV.put {Hs H Hs1 H1 : Hp} {σ σ1 : L2.St} {env env1 env2 : SE} {i : Nat} {x y : Val} {v u : V} (hl : env1.length = σ1.length) (h : stow i x env1 = some env2) (hy : RV C Hs H σ env Hs1 H1 σ1 env1 y u) (hb : ∀ j, y ≠ .bor j)
    (dis : ∀ dx ax dy ay, x = .fr dx → v = .ref ax → y = .fr dy → u = .ref ay → ∀ z, z ∈ ft H1 dx ax → z ∉ ft H1 dy ay) (hv : ∀ d, x = .fr d → ∃ a, v = .ref a) : RV C Hs H σ env Hs1 H1 (σ1.set i (some v)) env2 y u := by
  cases y with
  | fz d => exact hy
  | bor j => exact absurd rfl (hb j)
  | fr d =>
    obtain ⟨a, rfl, o, w⟩ := hy
    refine ⟨a, rfl, o, fun z hz => ⟨fun ⟨j, bj, c, e1, e2, e3, e4⟩ => ?_, (w z hz).2⟩⟩
    unfold stow at h
    split at h
    case isFalse => cases h
    rename_i hi
    have old : ∀ {bb : Bnd}, env2 = env1.set i (some bb) → (bb.ow = true → ∀ c, v = .ref c → z ∉ ft H1 bb.d c) → False := fun {bb} eb nz => by
      subst eb
      rcases set_at e1 with ⟨q1, q2, _⟩ | ⟨q1, q2⟩
      · subst q1
        have q2 := Option.some.inj q2
        subst q2
        rw [List.getElem?_set_self (by rw [← hl]; exact hi)] at e3
        cases e3
        exact nz e2 c rfl e4
      · rw [List.getElem?_set_ne (Ne.symm q1)] at e3
        exact (w z hz).1 ⟨j, bj, c, q2, e2, e3, e4⟩
    split at h
    · cases h
    · cases x with
      | bor _ => cases h
      | fz dx => cases h; exact old rfl fun z => by cases z
      | fr dx =>
        cases h
        exact old rfl fun _ c ec hzz => dis dx c d a rfl ec rfl rfl z hzz hz
theorem RV.apart {Hs H Hs1 H1 Hs2 H2 : Hp} {σ0 σ : L2.St} {env env1 env2 : SE} {dx dy : D} {ax ay : Addr} (st : Stp C Hs1 H1 σ env1 Hs2 H2 σ env2) (hx : RV C Hs H σ0 env Hs1 H1 σ env1 (.fr dx) (.ref ax)) (hy : RV C Hs1 H1 σ env1 Hs2 H2 σ env2 (.fr dy) (.ref ay)) : ∀ z, z ∈ ft H2 dx ax → z ∉ ft H2 dy ay := fun z h1 h2 => by
  obtain ⟨a, ea, ox, wx⟩ := hx
  cases ea
  obtain ⟨b, eb, oy, wy⟩ := hy
  cases eb
  have keep : ∀ x ∈ ft H1 dx ax, H2 x = H1 x := fun x hx => by
    obtain ⟨u, hu⟩ := ox.there hx
    exact (st.fr x u hu (ox.out x hx) (wx x hx).1).1.trans hu.symm
  have q : ft H2 dx ax = ft H1 dx ax := (TrAt.mono st.ex dx ax ox.tr keep).2
  rw [q] at h1
  obtain ⟨u, hu⟩ := ox.there h1
  exact (wx z h1).1 ((wy z h2).2 u hu (ox.out z h1))
theorem RV.isRef {Hs H Hs1 H1 : Hp} {σ σ1 : L2.St} {env env1 : SE} {x : Val} {v : V} (h : RV C Hs H σ env Hs1 H1 σ1 env1 x v) : ∀ d, x = .fr d → ∃ a, v = .ref a := fun d e => by
  subst e
  obtain ⟨a, e, _⟩ := h
  exact ⟨a, e⟩
theorem s_par3 {i j l : Nat} {x y z : Str} {px py pz pt : Pos} {kt k2 pt2} {r : M Val} (hc : X.calm = true) (hN : X.N.Nodup) (hi : X.N[i]? = some x) (hj : X.N[j]? = some y) (hl : X.N[l]? = some z) (hij : i ≠ j) (hil : i ≠ l) (hjl : j ≠ l)
    (hx : X.env.scope.names.lookup x = some .local) (hy : X.env.scope.names.lookup y = some .local) (hz : X.env.scope.names.lookup z = some .local) (ha : PE X a (tX (wdOf X) W p)) (hb : PE X b (tX (wdOf X) W q)) (hcc : PE X c (tX (wdOf X) W r))
    (hw : swappedStores [.Tuple [.Name x px, .Name y py, .Name z pz] kt pt] (.Tuple [a, b, c] k2 pt2) X.env = pure (some [x, y, z]))
    (hs : swapsWithSole [.Tuple [.Name x px, .Name y py, .Name z pz] kt pt] (.Tuple [a, b, c] k2 pt2) pos.line X.env = pure false := by rfl)
    (s1 : starEach (a :: [b, c]) X.env = (false, eval a X.env) :: starEach [b, c] X.env := by rfl) (s2 : starEach (b :: [c]) X.env = (false, eval b X.env) :: starEach [c] X.env := by rfl) (s3 : starEach (c :: []) X.env = (false, eval c X.env) :: starEach [] X.env := by rfl) :
    PS X (.Assign [.Tuple [.Name x px, .Name y py, .Name z pz] kt pt] (.Tuple [a, b, c] k2 pt2) pos) (tS (wdOf X) W (sPar3 i j l p q r)) :=
  ps_weak (ps_par3 hc hN hi hj hl hij hil hjl hx hy hz (pa_cons ha (pa_cons hb (pa_cons hcc pa_nil s3) s2) s1) hw hs) fun D σ H ⟨env, Hs, r1, rp, e, fin⟩ => by
    refine Tm.with rp e fin fun va env1 v H1 Hs1 hp st rv e1 => ?_
    refine Tm.with st.rep e1 (fin.later st) fun vb env2 u H2 Hs2 hq st2 ru e2 => ?_
    refine Tm.with st2.rep e2 ((fin.later st).later st2) fun vc env3 w H3 Hs3 hr st3 rw' e3 => ?_
    obtain ⟨e4, h1, e3⟩ := Option.bind_eq_some_iff.mp e3
    obtain ⟨e5, h2, e3⟩ := Option.bind_eq_some_iff.mp e3
    obtain ⟨e6, h3, e7⟩ := Option.map_eq_some_iff.mp e3
    cases e7
    have st13 := st2.trans st3
    have stA := st.trans st13
    have rv3 := RV.carry st13 (stow_nb h1) rv
    have ru1 := RV.carry st3 (stow_nb h2) ru
    have ru3 := ru1.later st
    have rw1 := rw'.later st2
    have rw3 := rw1.later st
    have sA := stA.stow h1 rv3
    have d12 : ∀ dx ax dy ay, va = .fr dx → v = .ref ax → vb = .fr dy → u = .ref ay → ∀ z, z ∈ ft H3 dx ax → z ∉ ft H3 dy ay := fun dx ax dy ay q1 q2 q3 q4 => by
      subst q1; subst q2; subst q3; subst q4
      exact RV.apart st13 rv ru1
    have d13 : ∀ dx ax dy ay, va = .fr dx → v = .ref ax → vc = .fr dy → w = .ref ay → ∀ z, z ∈ ft H3 dx ax → z ∉ ft H3 dy ay := fun dx ax dy ay q1 q2 q3 q4 => by
      subst q1; subst q2; subst q3; subst q4
      exact RV.apart st13 rv rw1
    have d23 : ∀ dx ax dy ay, vb = .fr dx → u = .ref ax → vc = .fr dy → w = .ref ay → ∀ z, z ∈ ft H3 dx ax → z ∉ ft H3 dy ay := fun dx ax dy ay q1 q2 q3 q4 => by
      subst q1; subst q2; subst q3; subst q4
      exact RV.apart st3 ru rw'
    have ru4 := RV.put stA.rep.len h1 ru3 (stow_nb h2) d12 rv3.isRef
    have rw4 := RV.put stA.rep.len h1 rw3 (stow_nb h3) d13 rv3.isRef
    have sB := sA.stow h2 ru4
    have rw5 := RV.put sA.rep.len h2 rw4 (stow_nb h3) d23 ru4.isRef
    exact ⟨v, u, w, rfl, fin _ H3 Hs3 (sB.stow h3 rw5)⟩
end
end VE
namespace VE
open PySem PySem.Spec PyProof.Rows L2
theorem hu65 {k : Nat} {A : Around} (r : Room k A) : A.units + 65 < cLine := by have := r.un; omega
structure CatchC (K : PySem.W.Frag) (mg : Str → Option Value) (cv : Addr) (errs : List Str) : Prop where
  ex : ∀ c Ca, c ∈ errs → mg c = some (.ref Ca) → PySem.W.exmOne K (.ref Ca) (.ref cv) = some true ∧ ExcC K Ca ∧ XfC K Ca ∧ PySem.W.findIn K (.ref Ca) "value" = some none
structure IsX (K : PySem.W.Frag) (mg : Str → Option Value) (y : Addr) (errs nm : List Str) : Prop where
  is : ∀ c Ca, c ∈ errs → mg c = some (.ref Ca) → PySem.W.kitOne K (.ref Ca) (.ref y) = some (decide (c ∈ nm))
def inL (errs : List Str) (c : Str) : Option Bool := if c ∈ errs then some true else none
theorem inL_mem {errs : List Str} {c : Str} {b : Bool} (h : inL errs c = some b) : c ∈ errs ∧ b = true := by
  unfold inL at h
  split at h
  · rename_i z
    cases h
    exact ⟨z, rfl⟩
  · cases h
section
variable {X : Cx} {W : WX} {pos : Pos}
theorem s_tryC {x n : Str} {i : Nat} {cv : Addr} {body suite : List Stmt} {b₀ : Stmt} {np pos' : Pos} {errs : List Str} {pb : SP} {ps : Str → SP} (hs : X.stack = X.env :: X.outer) (hf : X.env.frame = some X.env.locals) (hN : X.N.Nodup) (hi : X.N[i]? = some n) (hln : X.env.kindOf n = some .local)
    (hg : Gl X x) (hdb : (x == ("__debug__" : Str)) = false) (hm : X.mg x = some (.ref cv)) (tk : Takes X W) (T : CatchC X.K X.mg cv errs)
    (hb : ∀ (W' : WX) (pn : List (Addr × Obj)) (xe : Value → Shared → Prop), Takes (X.tr pn xe) W' → PSs (X.tr pn xe) body (tS (wdOf X) W' pb))
    (hsu : ∀ (c : Str) (Ca : Addr), c ∈ errs → X.mg c = some (.ref Ca) → ExcC X.K Ca → XfC X.K Ca → PySem.W.findIn X.K (.ref Ca) "value" = some none → ∀ (a dd : Addr) (oe : Obj) (pn : List (Addr × Obj)), Zc (.ref Ca) (some dd) oe → (∃ vs, oe.data = .fields vs) → PSs (X.suite a ((a, oe) :: pn)) (b₀ :: suite) (extS i a (.ref dd) (tS (wdOf X) (fun _ _ _ _ => True) (ps c)))) :
    PS X (.Try body [.ExceptHandler (some (.Name x np)) (some n) (b₀ :: suite) pos'] [] [] pos) (tS (wdOf X) W (sTry i (inL errs) pb ps)) :=
  s_try hs hf hN hi hln ⟨hg, hdb, .inl hm⟩ tk (fun c b Ca h1 h2 => by
    obtain ⟨q1, rfl⟩ := inL_mem h1
    exact (T.ex c Ca q1 h2).1) hb fun c Ca h1 h2 a dd oe pn hz hv => by
    obtain ⟨_, q2, q3, q4⟩ := T.ex c Ca (inL_mem h1).1 h2
    exact hsu c Ca (inL_mem h1).1 h2 q2 q3 q4 a dd oe pn hz hv
theorem x_propE {o : Expr} {p : M Val} {g Ca : Addr} {k : Nat} {fd : FuncData} {ps : List Str} {m c : Str} {F : M Val} (hp : ∃ pr, PropOf X.K Ca m pr g) (hc : X.mg c = some (.ref Ca)) (cl : Cls X.K Ca) (G : FnOk X.prog X.w X.K X.mg X.base (L2.CX X.prog X.w) k g fd ps (spF (wdOf X) 1 F)) (hr : Room (k + 1) X.A) (hb : Binds X.K fd ps []) (ho : PE X o (tX (wdOf X) W p))
    (hab : attributeBase o m X.env (eval o X.env) = eval o X.env := by rfl) : PE X (.Attribute o m pos) (tX (wdOf X) W (xProp c m F p)) := hp.elim fun _ hp => x_prop hc cl hp G hr hb ho hab
end
end VE
namespace VE
open PySem PySem.Spec PyProof.Rows L2
section
variable {X : Cx} {W : WX} {pos p0 : Pos} {k n : Nat} {f : Addr} {fd : FuncData} {ps : List Str} {sp : Sp} {E : L2.St → XK} {x : Str} {F : M Val}
theorem pe_c0 (G : FnOk X.prog X.w X.K X.mg X.base (L2.CX X.prog X.w) k f fd ps sp) (room : Room k X.A) (hg : Gl X x) (hm : X.mg x = some (.ref f)) (hk : PySem.W.keepIn X.K (.ref f) = true) (bi : Binds X.K fd ps []) (out : ∀ σ, PassesAt (L2.CX X.prog X.w) X σ (E σ)) (hdb : (x == ("__debug__" : Str)) = false) :
    PE X (.Call (.Name x p0) [] [] pos) (tCallS sp E tNil) :=
  ⟨fun pins s σ H Q inv want => wpAny_Call_Name_kw (ld_glob inv hg hm (PySem.W.callWith_K0 inv.kIn hk (run_fnS (us := []) (vs := []) G room bi (out σ) inv .nil want)) hdb)⟩
theorem x_call0 (G : FnOk X.prog X.w X.K X.mg X.base (L2.CX X.prog X.w) k f fd ps (spF (wdOf X) n F)) (hr : Room k X.A) (hg : Gl X x) (hm : X.mg x = some (.ref f)) (hk : PySem.W.keepIn X.K (.ref f) = true) (hb : Binds X.K fd ps []) (tk : Takes X W) (hdb : (x == ("__debug__" : Str)) = false := by decide) :
    PE X (.Call (.Name x p0) [] [] pos) (tX (wdOf X) W (xdef n F aNil)) :=
  pe_weak (pe_c0 G hr hg hm hk hb (fun σ => passAt tk σ) hdb) fun σ H Q h => by
    obtain ⟨env, Hs, r1, rp, e, fin⟩ := tCall_read h
    cases e
    exact fin [] H Hs (Stp.refl rp) rfl
end
end VE
namespace VE
open PySem PySem.Spec PyProof.Rows L2
def ItN (P : Program) (w : World) (d : Addr) (o : Obj) (kvs : List (NK × Addr × V)) : It :=
  ⟨fun i H => H d = some (.frz o (dN P w d kvs)) ∧ i < kvs.length, fun i H v H' => ∃ T q, kvs[i]? = some q ∧ v = .ref T ∧ H T = none ∧ H' = upd H T (.tup [.ref q.2.1, q.2.2]), fun i H => H d = some (.frz o (dN P w d kvs)) ∧ kvs.length ≤ i⟩
theorem KN.get : ∀ {xs : List (NK × Addr × V)} {ys : List (NK × Addr × Value)} {i : Nat} {q : NK × Addr × V}, KN xs ys → xs[i]? = some q → ∃ y, ys[i]? = some y ∧ q.2.1 = y.2.1 ∧ RelV q.2.2 y.2.2
  | _, _, i, q, .nil, e => by simp at e
  | _, _, 0, q, .cons (a := p) (b := y) ⟨h1, h2, h3⟩ t, e => by
    simp at e; subst e
    exact ⟨y, rfl, h2, h3⟩
  | _, _, i + 1, q, .cons (a := p) (b := y) ⟨h1, h2, h3⟩ t, e => by
    simp at e
    obtain ⟨z, e1, e2⟩ := KN.get t e
    exact ⟨z, by simpa using e1, e2⟩
theorem frzN {X : Cx} {pins : List (Addr × Obj)} {σ : L2.St} {H : Hp} {s : Shared} {d : Addr} {o : Obj} {kvs : List (NK × Addr × V)} (I : L2.Inv X pins σ H s) (h : H d = some (.frz o (dN X.prog X.w d kvs))) :
    ∃ es ep ys, o.data = .dict es ep ∧ DT.Raw s.heap d es ep ∧ KN kvs ys ∧ es.toList = ys.map (entryOfKey (nK X.prog X.w)) ∧ (d == sysModules) = false ∧ s.heap.get? d = some o := by
  obtain ⟨hd, ⟨z, y, ys, r, o', es, ep, h1, h2, h3, h4, h5⟩, _, _⟩ := (show ObjOk X.prog X.w H s.heap d (.frz o (dN X.prog X.w d kvs)) from I.hok d _ h)
  rw [hd] at h1
  cases h1
  exact ⟨es, ep, ys, h3, ⟨o, hd, h2, h3⟩, r, h4, y, hd⟩
theorem frz_ep {o : Obj} {es es' : Array DictEntry} {ep ep' : Nat} (h : o.data = .dict es ep) (h' : o.data = .dict es' ep') : es = es' ∧ ep = ep' := by
  rw [h] at h'
  cases h'
  exact ⟨rfl, rfl⟩
theorem turn_itemsN {P : Program} {w : World} {K : PySem.W.Frag} {d : Addr} {o : Obj} {es : Array DictEntry} {ep : Nat} {kvs : List (NK × Addr × V)} {elts : List Expr} {kk : Nat} {tpos : Pos} (it : Addr) (hod : o.data = .dict es ep) :
    Turn P w K (.Tuple elts kk tpos) (ItN P w d o kvs) [it] it (fun i h => ∃ ok ov, IsItemIter h it d i es.size ep ok ov) where
  mem := by simp
  obj := fun i h st b hb => by
    have e : b = it := by simpa using hb
    subst e
    obtain ⟨ok, ov, e⟩ := st
    exact ⟨_, e, fun v z => nomatch z⟩
  keep := fun i h h' st k => let ⟨ok, ov, e⟩ := st; ⟨ok, ov, k it (by simp) _ e⟩
  item := by
    intro X hP hw hK hc i pins s σ H E I hf st hg
    subst hP hw hK
    obtain ⟨hd, hi⟩ := hg
    obtain ⟨es', ep', ys, hdt, raw, kn, hes, hs, hgd⟩ := frzN I hd
    obtain ⟨rfl, rfl⟩ := frz_ep hod hdt
    obtain ⟨q, hq⟩ : ∃ p, kvs[i]? = some p := ⟨kvs[i], List.getElem?_eq_getElem hi⟩
    obtain ⟨y, hy, hb, ru⟩ := kn.get hq
    have hsz : es.size = ys.length := by rw [← Array.length_toList, hes, List.length_map]
    have hl : kvs.length = ys.length := Paired.length kn
    have hie : i < es.size := by omega
    have hen : es[i] = entryOfKey (nK X.prog X.w) y := by
      have h1 : es.toList[i]? = some (entryOfKey (nK X.prog X.w) y) := by rw [hes, List.getElem?_map, hy]; rfl
      have h2 : es.toList[i]? = some es[i] := by rw [List.getElem?_eq_getElem (by simpa using hie)]; simp
      rw [h2] at h1
      exact Option.some.inj h1
    obtain ⟨ok, ov, he⟩ := st
    have hlt : it < s.heap.objs.size := Heap.lt_size he
    refine DT.nextI he raw hie fun h' ho hT hz hk => ?_
    refine ⟨_, rfl, wpAny_letOwnedTupleGo_items (s := { s with heap := h' }) ho fun h'' he' sb => ?_⟩
    have hT2 : h''.get? s.heap.objs.size = some { cls := .type "tuple", data := .seq #[es[i].key, es[i].val] } := (sb.2 _ (Nat.ne_of_gt hlt)).trans hT
    have new : ObjOk X.prog X.w (upd H s.heap.objs.size (.tup [.ref q.2.1, q.2.2])) h'' s.heap.objs.size (.tup [.ref q.2.1, q.2.2]) := by
      refine ⟨by show 2 ≤ sizeLine; decide, [es[i].key, es[i].val], .cons ?_ (.cons ?_ .nil), ⟨_, hT2, rfl, _, rfl⟩⟩
      · rw [hen]; show Value.ref _ = Value.ref _; rw [hb]
      · rw [hen]; exact ru
    have I1 : L2.Inv X pins σ (upd H s.heap.objs.size (.tup [.ref q.2.1, q.2.2])) { s with heap := h'' } :=
      I.turnedNew (t' := s.toks) (ch := [it]) (fun b ob hb e => (sb.2 b (by simpa using hb)).trans (hk b ob (by simpa using hb) e)) hf (Nat.le_refl _) new
    refine ⟨.ref s.heap.objs.size, _, I1, rfl, ⟨_, q, hq, rfl, I.hok.fresh (Nat.le_refl _), rfl⟩, ⟨es[i].key, es[i].val, he'⟩, fun b hb => ?_⟩
    have e : b = it := by simpa using hb
    rw [e, upd_ne (Nat.ne_of_lt hlt)]
    exact (hf it (by simp)).1
  done := by
    intro X hP hw hK hc i pins s σ H E I hf st hg
    subst hP hw hK
    obtain ⟨hd, hi⟩ := hg
    obtain ⟨f0, f1, f2, f3, f4, f5⟩ := hf it (by simp)
    obtain ⟨es', ep', ys, hdt, raw, kn, hes, hs, hgd⟩ := frzN I hd
    obtain ⟨rfl, rfl⟩ := frz_ep hod hdt
    have hsz : es.size = ys.length := by rw [← Array.length_toList, hes, List.length_map]
    have hl : kvs.length = ys.length := Paired.length kn
    obtain ⟨ok, ov, he⟩ := st
    exact DT.endI (I.ok.hd hc) he raw (by omega) fun h' eb => ⟨rfl, I.turned (t' := s.toks) (fun b ob hb e => eb b ob hb e) f0 f1 f3 f4 f5⟩
  self := fun A i s Q E st h => let ⟨_, _, e⟩ := st; PySem.W.kcp_self e h
def iItemsN (P : Program) (w : World) (td : TE) : TI := fun σ H R => td σ H fun x H1 => ∃ d kvs, x = .ref d ∧ H1 d = some (dN P w d kvs) ∧ ∀ od, R (ItN P w d od kvs) (upd H1 d (.frz od (dN P w d kvs)))
theorem pi_itemsN {X : Cx} {e : Expr} {td : TE} {apos cpos : Pos} {elts : List Expr} {kk : Nat} {tpos : Pos} (he : PE X e td) (hbase : attributeBase e "items" X.env (eval e X.env) = eval e X.env := by rfl) (hline : (apos.endLine == cpos.line) = true := by rfl) :
    PI X (.Tuple elts kk tpos) (.Call (.Attribute e "items" apos) [] [] cpos) (iItemsN X.prog X.w td) := by
  refine ⟨fun pins s σ H R I h => ?_⟩
  refine wpAny_Call_method (T := "dict") (id := "dict.items") hbase rfl hline PySem.F.plainAttrs_dict PySem.F.slot_dict_items PySem.F.type_dict_items (thn (he.run pins s σ H _ I h) fun u s1 ⟨x, H1, I1, rx, d, kvs, ex, hd, q⟩ => ?_)
  subst ex
  obtain rfl : u = Value.ref d := rx
  obtain ⟨od, I1⟩ := I1.lock hd (by exact True.intro)
  have hd' : (upd H1 d (.frz od (dN X.prog X.w d kvs))) d = some (.frz od (dN X.prog X.w d kvs)) := upd_same
  obtain ⟨es, ep, ys, hdt, raw, kn, hes, hs, hgd⟩ := frzN I1 hd'
  refine ⟨raw.typeIs, ?_, ?_⟩
  · intro b e
    cases e
    obtain ⟨o, ho, hc, _⟩ := raw
    exact ⟨o, ho, hc.2.1⟩
  have I2 : L2.Inv X pins σ (upd H1 d (.frz od (dN X.prog X.w d kvs))) { s1 with heap := s1.heap.push { cls := .type "dict_items", data := .fields #[.ref d] } } := I1.kept (t' := s1.toks) fun b ob q => Heap.get?_push_of_some _ q
  have fin : wpAny (model X.prog X.w) X.A (pyIter (.ref s1.heap.objs.size)) (PIE X pins σ (.Tuple elts kk tpos) R) X.xe { s1 with heap := s1.heap.push { cls := .type "dict_items", data := .fields #[.ref d] } } := by
    refine DT.iterI (d := d) (es := es) (ep := ep) ⟨_, Heap.get?_push_size _ rfl, rfl, rfl⟩ (raw.push _) (pi_one (tk := s1.toks) I2 _ (turn_itemsN _ hdt) ⟨.none, .none, ?_⟩ (q od))
    exact Heap.get?_push_size _ rfl
  show wpAny _ _ (callWith cpos (.builtin "dict.items") [.ref d] [] []) _ X.xe s1
  exact method_meetsIn PySem.F.slot_dict_items PySem.F.entry_dict_items rfl (PySem.evalArgs_none ⟨rfl, raw.typeIs, PySem.F.args_dict_items_1 _, _, DT.meetsItems (es := es) (ep := ep) hs, ⟨raw, fin⟩⟩)
def itN (i : Nat) : M (List D) := fun env => match env[i]? with
  | some (some (.own (.dct 2 kvs))) => some (.ok (kvs.map fun p => .tup [p.1, p.2]) (env.set i none))
  | _ => none
mutual
theorem rp_nk {C : Wd} {Hs : Hp} : ∀ (k : NK) (v : V), NkAt Hs k v → Rp C Hs (unk k) v
  | .none, _, h => by simpa only [NkAt, unk, Rp] using h
  | .num _, _, h => by simpa only [NkAt, unk, Rp] using h
  | .text _, _, h => by simpa only [NkAt, unk, Rp] using h
  | .tup ks, _, h => by
    simp only [NkAt] at h
    obtain ⟨b, xs, e1, h1, h2⟩ := h
    simp only [unk, Rp]
    exact ⟨b, xs, e1, h1, rp_nks ks xs h2⟩
theorem rp_nks {C : Wd} {Hs : Hp} : ∀ (ks : List NK) (xs : List V), NkAll Hs ks xs → RpL C Hs (unks ks) xs
  | [], _, h => by simp only [NkAll] at h; simp only [unks, RpL]; exact h
  | k :: ks, _, h => by
    simp only [NkAll] at h
    obtain ⟨v, r, e1, h1, h2⟩ := h
    subst e1
    exact RpL.cons (rp_nk k v h1) (rp_nks ks r h2)
end
theorem RpV.get : ∀ {C : Wd} {H : Hp} {kvs : List (D × D)} {xs : List V} {i : Nat} {p : D × D}, RpV C H kvs xs → kvs[i]? = some p → ∃ v, xs[i]? = some v ∧ Rp C H p.2 v
  | _, _, [], _, i, p, _, e => by simp at e
  | _, _, (a, b) :: r, xs, 0, p, h, e => by
    simp only [RpV] at h
    obtain ⟨v, t, rfl, h1, h2⟩ := h
    simp at e; subst e
    exact ⟨v, rfl, h1⟩
  | _, _, (a, b) :: r, xs, i + 1, p, h, e => by
    simp only [RpV] at h
    obtain ⟨v, t, rfl, h1, h2⟩ := h
    simp at e
    obtain ⟨u, e1, e2⟩ := RpV.get h2 e
    exact ⟨u, by simpa using e1, e2⟩
theorem itv_N {C : Wd} {d : Addr} {o : Obj} {ns : List (NK × Addr × V)} {kvs : List (D × D)} : ItV C (ItN C.P C.w d o ns) (kvs.map fun p => .tup [p.1, p.2])
    (fun Hs _ _ _ => Hs d = some (.frz o (dN C.P C.w d ns)) ∧ (kvs.map Prod.fst).map nkD = ns.map (fun p => some p.1) ∧ RpV C Hs kvs (ns.map (·.2.2)) ∧ ∀ q ∈ ns, NkAt Hs q.1 (.ref q.2.1)) where
  keep := fun ⟨h1, h2, h3, h4⟩ s => ⟨s _ _ h1, h2, RpV.mono s _ _ h3, fun q hq => NkAt.mono s _ _ (h4 q hq)⟩
  go := fun {Hs H σ env i} ⟨h1, h2, h3, h4⟩ ex hi => ⟨ex _ _ h1, by
    have := congrArg List.length h2
    simp at this hi
    omega⟩
  stop := fun {Hs H σ env i} ⟨h1, h2, h3, h4⟩ ex hi => ⟨ex _ _ h1, by
    have := congrArg List.length h2
    simp at this hi
    omega⟩
  yld := fun {Hs H σ env i x H'} ⟨h1, h2, h3, h4⟩ ex ⟨T, q, hq, ev, hT, e⟩ hi => by
    subst ev; subst e
    have hl : kvs.length = ns.length := by simpa using congrArg List.length h2
    have hi' : i < kvs.length := by simpa using hi
    obtain ⟨p, hp⟩ : ∃ p, kvs[i]? = some p := ⟨kvs[i], List.getElem?_eq_getElem hi'⟩
    have hk : nkD p.1 = some q.1 := by
      have := congrArg (fun l => l[i]?) h2
      simp only [List.getElem?_map, hp, hq, Option.map_some] at this
      exact Option.some.inj this
    obtain ⟨v, hv, rv⟩ := h3.get hp
    rw [List.getElem?_map, hq] at hv
    cases hv
    have g := Grow.newF (o := HO.tup [.ref q.2.1, q.2.2]) ex hT
    refine ⟨.tup [p.1, p.2], _, by rw [List.getElem?_map, hp]; rfl, g, ?_⟩
    simp only [Rp]
    refine ⟨T, _, rfl, upd_same, RpL.cons ?_ (RpL.cons (Rp.mono g.ex _ _ rv) RpL.nil)⟩
    rw [unk_of _ _ hk]
    exact Rp.mono g.ex _ _ (rp_nk _ _ (h4 q (List.mem_of_getElem? hq)))
theorem i_items {X : Cx} {W : WX} {e : Expr} {i : Nat} {apos cpos : Pos} {elts : List Expr} {kk : Nat} {tpos : Pos} (h : PE X e (tVar i)) (hbase : attributeBase e "items" X.env (eval e X.env) = eval e X.env := by rfl) (hline : (apos.endLine == cpos.line) = true := by rfl) :
    PI X (.Tuple elts kk tpos) (.Call (.Attribute e "items" apos) [] [] cpos) (tI (wdOf X) W (itN i)) :=
  pi_weak (pi_itemsN h hbase hline) fun σ H R ⟨env, Hs, r, rp, e, fin⟩ => by
    unfold itN at e
    split at e
    · rename_i kvs hd
      cases e
      obtain ⟨a, ev, hh⟩ := rp.held hd rfl
      have ht := hh.tr
      simp only [Bnd.d, TrAt] at ht
      obtain ⟨xs, hda, hv⟩ := ht
      obtain ⟨ns, hH, hk, rfl, hn⟩ := hda
      refine ⟨_, ev, a, ns, rfl, hH, fun od => ?_⟩
      have ft1 : ft H (D.dct 2 kvs) a = [a] := by simp only [ft]
      have na : Hs a = none := hh.out a (by simp only [Bnd.d, ft1]; simp)
      have s1 := Stp.forget rp i
      have no : ¬ Own H σ (env.set i none) a := by
        rintro ⟨j, b, c, e1, e2, e3, e4⟩
        rcases set_at e1 with ⟨_, z, _⟩ | ⟨z, e1⟩
        · cases z
        · exact z (rp.sep j i b _ c a a e1 hd e2 rfl e3 ev e4 (by simp only [Bnd.d, ft1]; simp))
      have own : Own H σ env a := ⟨i, _, a, hd, rfl, ev, by simp only [Bnd.d, ft1]; simp⟩
      have ex1 : Ex Hs (upd Hs a (.frz od (dN (wdOf X).P (wdOf X).w a ns))) := Ex.new na
      have ex2 : Ex (upd Hs a (.frz od (dN (wdOf X).P (wdOf X).w a ns))) (upd H a (.frz od (dN (wdOf X).P (wdOf X).w a ns))) := fun x o q => by
        by_cases z : x = a
        · subst z; rw [upd_same] at q ⊢; exact q
        · rw [upd_ne z] at q ⊢; exact rp.ex x o q
      obtain ⟨R2, iff⟩ := s1.rep.same ex1 ex2 fun x hx => by
        have z : x ≠ a := fun z => no (z ▸ hx)
        exact ⟨upd_ne z, by rw [upd_ne z]; exact (Own.there s1.rep hx).1⟩
      refine fin _ _ _ _ ⟨ex1, R2, fun x o h1 h2 h3 => ?_, fun j d' ej => s1.io j d' ej⟩ itv_N ⟨upd_same, hk, RpV.mono ex1 _ _ hv, fun q hq => NkAt.mono ex1 _ _ (hn q hq).1⟩
      have z : x ≠ a := fun z => h3 (z ▸ own)
      refine ⟨by rw [upd_ne z]; exact h1, by rw [upd_ne z]; exact h2, fun w => h3 ?_⟩
      obtain ⟨j, b, c, e1, e2, e3, e4⟩ := (iff x).mp w
      rcases set_at e1 with ⟨_, z, _⟩ | ⟨_, e1⟩
      · cases z
      · exact ⟨j, b, c, e1, e2, e3, e4⟩
    · cases e
end VE
namespace VE
open PySem PySem.Spec PyProof.Rows L2
open Classical in
noncomputable def forRunO (t : TgD) (b : SP) (i : Nat) (ds0 : List D) : List D → SE → Option SOut
  | [], env => if env[i]? = some (some (.io (.lst ds0))) then some (.nx env) else none
  | d :: ds, env => if env[i]? = some (some (.io (.lst ds0))) then (t d env).bind fun e1 => match b e1 with
      | some (.nx e2) => forRunO t b i ds0 ds e2
      | some (.ct e2) => forRunO t b i ds0 ds e2
      | some (.bk e2) => some (.nx e2)
      | r => r
    else none
def restO (i : Nat) (b : Bnd) (e : SE) : Option SE := match e[i]? with
  | some (some (.io d)) => some (e.set i (some (b.put d)))
  | _ => none
def mapO (i : Nat) (b : Bnd) : SOut → Option SOut
  | .nx e => (restO i b e).map .nx
  | .rt v e => (restO i b e).map (.rt v)
  | .exc c d e => (restO i b e).map (.exc c d)
  | _ => none
def itemsO (en : Bool) (ds : List D) : List D := if en then enumL 0 ds else ds
noncomputable def sForO (en : Bool) (i : Nat) (t : TgD) (b : SP) : SP := fun env => match env[i]? with
  | some (some bd) => match bd.d with
    | .lst ds0 => if bd.ow = true ∧ ds0.all noBox = true then (forRunO t b i ds0 (itemsO en ds0) (env.set i (some (.io (.lst ds0))))).bind (mapO i bd) else none
    | _ => none
  | _ => none
def tIO (C : Wd) (en : Bool) (i : Nat) : TI := fun σ H R => ∃ a xs, σ[i]? = some (some (.ref a)) ∧ SqL C.K H a xs ∧ R (if en then Ite C.K a else Itl C.K a) H
theorem i_own {X : Cx} {tg e : Expr} {i : Nat} (h : PE X e (tVar i)) : PI X tg e (tIO (wdOf X) false i) := pi_weak (pi_list h) fun σ H R ⟨a, xs, e1, e2, r⟩ => ⟨_, e1, a, rfl, ⟨xs, e2⟩, r⟩
theorem i_ownE {X : Cx} {e : Expr} {i : Nat} {p pos tpos : Pos} {elts : List Expr} {kk : Nat} (hg : Gl X "enumerate") (hm : X.mg "enumerate" = none) (h : PE X e (tVar i)) (hs : starEach [e] X.env = [(false, eval e X.env)] := by rfl) :
    PI X (.Tuple elts kk tpos) (.Call (.Name "enumerate" p) [e] [] pos) (tIO (wdOf X) true i) := pi_weak (pi_enum hg hm (pa_cons h pa_nil hs) hs) fun σ H R ⟨a, xs, e1, e2, r⟩ => ⟨_, e1, a, xs, rfl, e2, r⟩
theorem Rep.kind {C : Wd} {Hs H : Hp} {σ : L2.St} {env : SE} {i : Nat} {b b' : Bnd} (r : Rep C Hs H σ env) (e : env[i]? = some (some b)) (hb : b.ow = true) (hb' : b'.ow = true) (hd : b'.d = b.d) :
    Rep C Hs H σ (env.set i (some b')) ∧ ∀ x, Own H σ (env.set i (some b')) x ↔ Own H σ env x := by
  have hi : i < env.length := (List.getElem?_eq_some_iff.mp e).1
  have back : ∀ (j : Nat) (c : Bnd), (env.set i (some b'))[j]? = some (some c) → ∃ c', env[j]? = some (some c') ∧ c'.ow = c.ow ∧ c'.d = c.d := fun j c ej => by
    rcases set_at ej with ⟨z, w, _⟩ | ⟨z, w⟩
    · cases w; subst z; exact ⟨b, e, by rw [hb, hb'], hd.symm⟩
    · exact ⟨c, w, rfl, rfl⟩
  have forth : ∀ (j : Nat) (c : Bnd), env[j]? = some (some c) → ∃ c', (env.set i (some b'))[j]? = some (some c') ∧ c'.ow = c.ow ∧ c'.d = c.d := fun j c ej => by
    by_cases z : j = i
    · subst z
      rw [e] at ej; cases ej
      exact ⟨b', by rw [List.getElem?_set_self hi], by rw [hb, hb'], hd⟩
    · exact ⟨c, by rw [List.getElem?_set_ne (Ne.symm z)]; exact ej, rfl, rfl⟩
  refine ⟨⟨r.ex, by rw [List.length_set]; exact r.len, fun j c ej => ?_, fun j k bj bk a c x e1 e2 e3 e4 e5 e6 e7 e8 => ?_⟩, fun x => ⟨?_, ?_⟩⟩
  · obtain ⟨c', e1, e2, e3⟩ := back j c ej
    obtain ⟨v, ev, q⟩ := r.at_ j c' e1
    refine ⟨v, ev, ?_⟩
    unfold RB at q ⊢
    rw [e2, e3] at q
    exact q
  · obtain ⟨c1, f1, f2, f3⟩ := back j bj e1
    obtain ⟨c2, g1, g2, g3⟩ := back k bk e2
    exact r.sep j k c1 c2 a c x f1 g1 (f2.trans e3) (g2.trans e4) e5 e6 (by rw [f3]; exact e7) (by rw [g3]; exact e8)
  · rintro ⟨j, c, a, e1, e2, e3, e4⟩
    obtain ⟨c', f1, f2, f3⟩ := back j c e1
    exact ⟨j, c', a, f1, f2.trans e2, e3, by rw [f3]; exact e4⟩
  · rintro ⟨j, c, a, e1, e2, e3, e4⟩
    obtain ⟨c', f1, f2, f3⟩ := forth j c e1
    exact ⟨j, c', a, f1, f2.trans e2, e3, by rw [f3]; exact e4⟩
theorem put_d (b : Bnd) (d : D) : (b.put d).d = d := by cases b <;> rfl
theorem put_ow (b : Bnd) (d : D) : (b.put d).ow = b.ow := by cases b <;> rfl
theorem Stp.relend {C : Wd} {Hs H Hs' H' : Hp} {σ σ' : L2.St} {env env' : SE} {i : Nat} {b : Bnd} {d1 : D} (e : env[i]? = some (some b)) (hb : b.ow = true) (s : Stp C Hs H σ (env.set i (some (.io b.d))) Hs' H' σ' env') (e1 : env'[i]? = some (some (.io d1))) :
    Stp C Hs H σ env Hs' H' σ' (env'.set i (some (b.put d1))) := by
  have hi' : i < env'.length := (List.getElem?_eq_some_iff.mp e1).1
  have hi : i < env.length := (List.getElem?_eq_some_iff.mp e).1
  obtain ⟨R, ow⟩ := s.rep.kind (b' := b.put d1) e1 rfl (by rw [put_ow]; exact hb) (by rw [put_d]; rfl)
  have back : ∀ x, Own H σ (env.set i (some (.io b.d))) x → Own H σ env x := by
    rintro x ⟨j, c, a, f1, f2, f3, f4⟩
    rcases set_at f1 with ⟨z, w, _⟩ | ⟨z, w⟩
    · cases w; subst z; exact ⟨j, b, a, e, hb, f3, f4⟩
    · exact ⟨j, c, a, w, f2, f3, f4⟩
  refine ⟨s.ex, R, fun x o h1 h2 h3 => ?_, fun j d' ej => ?_⟩
  · obtain ⟨k1, k2, k3⟩ := s.fr x o h1 h2 fun z => h3 (back x z)
    exact ⟨k1, k2, fun z => k3 ((ow x).mp z)⟩
  · rcases set_at ej with ⟨z, w, _⟩ | ⟨z, w⟩
    · subst z
      obtain ⟨q1, d2, q2⟩ := s.io j d1 e1
      refine ⟨q1, ?_⟩
      cases b with
      | io d => exact ⟨d, e⟩
      | own d => cases w
      | fz d => cases w
    · obtain ⟨q1, d2, q2⟩ := s.io j d' w
      rcases set_at q2 with ⟨z', _, _⟩ | ⟨_, q2⟩
      · exact absurd z' z
      · exact ⟨q1, d2, q2⟩
abbrev JO (K : PySem.W.Frag) (en : Bool) (a : Addr) : It := if en then Ite K a else Itl K a
theorem jo_len {en : Bool} {ds : List D} : (itemsO en ds).length = ds.length := by cases en <;> simp [itemsO, enumL_len]
theorem jo_go {C : Wd} {en : Bool} {a : Addr} {Hs H : Hp} {xs : List V} {ds : List D} {i : Nat} (h1 : H a = some (.lst xs)) (h2 : RpL C Hs ds xs) (hi : i < ds.length) : (JO C.K en a).go i H := by
  cases en
  · exact ⟨xs, xs[i]'(by rw [h2.length]; exact hi), SqL.of h1, List.getElem?_eq_getElem _⟩
  · exact ⟨xs, xs[i]'(by rw [h2.length]; exact hi), SqL.of h1, List.getElem?_eq_getElem _⟩
theorem jo_stop {C : Wd} {en : Bool} {a : Addr} {Hs H : Hp} {xs : List V} {ds : List D} {i : Nat} (h1 : H a = some (.lst xs)) (h2 : RpL C Hs ds xs) (hi : ds.length ≤ i) : (JO C.K en a).stop i H := by
  cases en
  · exact ⟨xs, SqL.of h1, by rw [h2.length]; exact hi⟩
  · exact ⟨xs, SqL.of h1, by rw [h2.length]; exact hi⟩
theorem jo_yld {C : Wd} {en : Bool} {a : Addr} {Hs H H' : Hp} {xs : List V} {ds : List D} {i : Nat} {x : V} (ex : Ex Hs H) (h1 : H a = some (.lst xs)) (h2 : RpL C Hs ds xs) (hi : i < ds.length) (y : (JO C.K en a).yld i H x H') :
    ∃ d Hs', (itemsO en ds)[i]? = some d ∧ Grow Hs H Hs' H' ∧ Rp C Hs' d x := by
  cases en
  · obtain ⟨e, y⟩ := y
    subst e
    obtain ⟨d, e1, e2⟩ := h2.get' (y xs (SqL.of h1))
    exact ⟨d, Hs, e1, Grow.refl ex, e2⟩
  · obtain ⟨T, z, ev, hT, e, q⟩ := y
    subst ev; subst e
    obtain ⟨d, e1, e2⟩ := h2.get' (q xs (SqL.of h1))
    have g := Grow.newF (o := HO.tup [.int (i : Nat), z]) ex hT
    refine ⟨_, _, enumL_at e1, g, ?_⟩
    rw [Nat.zero_add]
    simp only [Rp]
    exact ⟨T, _, rfl, upd_same, RpL.cons rpI (RpL.cons (Rp.mono g.ex _ _ e2) RpL.nil)⟩
section
variable {X : Cx} {W : WX} {tg iter : Expr} {pos : Pos} {body : List Stmt} {B : SP} {t : TgD} {ids : List Nat} {i : Nat} {en : Bool}
theorem s_forO (hp : PassesOwn (model X.prog X.w) X.A X.env X.xe) (hc : X.calm = true) (hi : PI X tg iter (tIO (wdOf X) en i)) (hg : PG X tg (tG (wdOf X) ids t)) (hb : PSs X body (tS (wdOf X) W B)) (hs : ∀ x, foldedSetIterable iter X.env x = pure x := by intro _; rfl) :
    PS X (.For tg iter body [] pos) (tS (wdOf X) W (sForO en i t B)) :=
  ps_weak (ps_for hp hc hi hg hb hs) fun En σ H ⟨env, Hs, r1, rp, e, fin⟩ => by
    unfold sForO at e
    split at e
    · rename_i bd hbd
      split at e
      · rename_i ds0 hd0
        split at e
        · rename_i hg
          obtain ⟨ho, hfl⟩ := hg
          obtain ⟨r0, er, em⟩ := Option.bind_eq_some_iff.mp e
          have hii : i < env.length := (List.getElem?_eq_some_iff.mp hbd).1
          obtain ⟨a, ea, hh⟩ := rp.held hbd ho
          have ht := hh.tr
          rw [hd0] at ht
          simp only [TrAt] at ht
          obtain ⟨xs0, hxs0, _⟩ := ht
          obtain ⟨R1, ow1⟩ := rp.kind (b' := .io (.lst ds0)) hbd ho rfl hd0.symm
          have e1i : (env.set i (some (Bnd.io (.lst ds0))))[i]? = some (some (.io (.lst ds0))) := List.getElem?_set_self hii
          have relend : ∀ {σ' : L2.St} {Hs' H' : Hp} {env' : SE} {d1 : VE.D}, Stp (wdOf X) Hs H σ (env.set i (some (.io (.lst ds0)))) Hs' H' σ' env' → env'[i]? = some (some (.io d1)) → Stp (wdOf X) Hs H σ env Hs' H' σ' (env'.set i (some (bd.put d1))) := fun s q => Stp.relend hbd ho (by rw [hd0]; exact s) q
          have slot : ∀ {σ' : L2.St} {Hs' H' : Hp} {env' : SE}, Stp (wdOf X) Hs H σ (env.set i (some (.io (.lst ds0)))) Hs' H' σ' env' → env'[i]? = some (some (.io (.lst ds0))) → ∃ xs, H' a = some (.lst xs) ∧ RpL (wdOf X) Hs' ds0 xs := fun s q => by
            obtain ⟨q1, _⟩ := s.io i _ q
            obtain ⟨a', ea', hh'⟩ := s.rep.held q rfl
            rw [q1, ea] at ea'
            cases ea'
            exact hh'.tr.flat (by show flatD (D.lst ds0) = true; exact hfl)
          refine ⟨a, xs0, ea, SqL.of hxs0, ?_⟩
          refine ⟨fun k m σ' H' => m = ds0.length - k ∧ k ≤ ds0.length ∧ ∃ Hs' env', Stp (wdOf X) Hs H σ (env.set i (some (.io (.lst ds0)))) Hs' H' σ' env' ∧ forRunO t B i ds0 ((itemsO en ds0).drop k) env' = some r0, ⟨ds0.length, by simp, Nat.zero_le _, Hs, _, Stp.refl R1, er⟩, ?_⟩
          rintro k m σ' H' ⟨rfl, hk, Hs', env', s', e'⟩
          by_cases hlt : k < ds0.length
          · have hlt' : k < (itemsO en ds0).length := by rw [jo_len]; exact hlt
            have hdrop : (itemsO en ds0).drop k = (itemsO en ds0)[k] :: (itemsO en ds0).drop (k + 1) := List.drop_eq_getElem_cons hlt'
            rw [hdrop] at e'
            unfold forRunO at e'
            split at e'
            · rename_i chk
              obtain ⟨xs, hx1, hx2⟩ := slot s' chk
              refine .inr ⟨jo_go (C := wdOf X) hx1 hx2 hlt, _, fun σ2 H2 n2 => ⟨ds0.length - (k + 1), by omega, n2⟩, fun x H2 y => ?_⟩
              obtain ⟨d, Hs2, hd, g, hx⟩ := jo_yld (C := wdOf X) s'.rep.ex hx1 hx2 hlt y
              have sg := Stp.grow s'.rep g
              rw [List.getElem?_eq_getElem hlt'] at hd
              cases hd
              cases ht2 : t (itemsO en ds0)[k] env' with
              | none => rw [ht2] at e'; cases e'
              | some env2 =>
                rw [ht2, Option.bind_some] at e'
                refine ⟨env', Hs2, _, env2, sg.rep, hx, ht2, fun σ3 Hs3 s3 _ => ?_⟩
                have s03 := (s'.trans sg).trans s3
                cases hB : B env2 with
                | none => rw [hB] at e'; cases e'
                | some o =>
                  rw [hB] at e'
                  refine ⟨env2, Hs3, o, s3.rep, hB, ?_⟩
                  cases o with
                  | nx e2 => exact fun σ4 H4 Hs4 s4 => ⟨rfl, by omega, Hs4, e2, s03.trans s4, e'⟩
                  | ct e2 => exact fun σ4 H4 Hs4 s4 => ⟨rfl, by omega, Hs4, e2, s03.trans s4, e'⟩
                  | bk e2 =>
                    cases e'
                    obtain ⟨e3, q3, q4⟩ := Option.map_eq_some_iff.mp em
                    subst q4
                    unfold restO at q3
                    split at q3
                    · rename_i d1 hd1
                      cases q3
                      exact fun σ4 H4 Hs4 s4 => fin σ4 H4 Hs4 (relend (s03.trans s4) hd1)
                    · cases q3
                  | rt v e2 =>
                    cases e'
                    obtain ⟨e3, q3, q4⟩ := Option.map_eq_some_iff.mp em
                    subst q4
                    unfold restO at q3
                    split at q3
                    · rename_i d1 hd1
                      cases q3
                      refine fun x σ4 H4 Hs4 s4 rv => fin x σ4 H4 Hs4 (relend (s03.trans s4) hd1) ?_
                      have rv' := rv.later s03
                      have iff := (s4.rep.kind (b' := bd.put d1) hd1 rfl (by rw [put_ow]; exact ho) (by rw [put_d]; rfl)).2
                      cases v with
                      | fz d => exact rv'
                      | bor j => exact rv'
                      | fr d =>
                        obtain ⟨b, e5, o5, q5⟩ := rv'
                        exact ⟨b, e5, o5, fun y hy => ⟨fun z => (q5 y hy).1 ((iff y).mp z), fun o h1 h2 => (ow1 y).mp ((q5 y hy).2 o h1 h2)⟩⟩
                    · cases q3
                  | exc c d e2 =>
                    cases e'
                    obtain ⟨e3, q3, q4⟩ := Option.map_eq_some_iff.mp em
                    subst q4
                    unfold restO at q3
                    split at q3
                    · rename_i d1 hd1
                      cases q3
                      exact fun cls od σ4 H4 Hs4 s4 x => fin cls od σ4 H4 Hs4 (relend (s03.trans s4) hd1) x
                    · cases q3
            · cases e'
          · have hil : k = ds0.length := by omega
            subst hil
            rw [← jo_len (en := en), List.drop_length] at e'
            unfold forRunO at e'
            split at e'
            · rename_i chk
              cases e'
              obtain ⟨xs, hx1, hx2⟩ := slot s' chk
              obtain ⟨e3, q3, q4⟩ := Option.map_eq_some_iff.mp em
              subst q4
              unfold restO at q3
              rw [chk] at q3
              cases q3
              exact .inl ⟨jo_stop (C := wdOf X) hx1 hx2 (Nat.le_refl _), fin σ' H' Hs' (relend s' chk)⟩
            · cases e'
        · cases e
      · cases e
    · cases e
end
end VE
namespace VE
open PySem PySem.Spec PyProof.Rows L2 PySem.W
theorem ne_bind (self : Value) : bindSpecial (.builtin "object.__ne__") self = pure (.builtin "object.__ne__", [self]) := PySem.F.cmp_object.ne.bind self
section
variable {prog : Program} {w : World} {A : Around} {E : Value → Shared → Prop} {s : Shared} {K : Frag} {x C L f : Addr} {h₀ : Heap} {m : Str → Option Value} {ox : Obj} {od : Option Obj} {b tb : Value}
def NeBack (Q : Value → Shared → Prop) (v : Value) (s' : Shared) : Prop := match v with
  | .bool r => Q (.bool (!r)) s'
  | _ => False
theorem ne_entry {Q : Value → Shared → Prop} (hu : A.in1.units < cLine) (X : K.In s.heap) (I : InstAt s.heap x ox C od) (hm : mroIn K C (.type "object") = some true)
    (he : findIn K (.ref C) "__eq__" = some (some (.ref f))) (hf : isFn K (.ref f) = true) (h : wpAny (model prog w) A.in1 (call (.ref f) [.ref x, b]) (NeBack Q) E s) :
    wpAny (model prog w) A (call (.builtin "object.__ne__") [.ref x, b]) Q E s := by
  refine wpAny_call (codeAny_call_builtin PySem.F.cmp_object.ne.plain PySem.F.cmpEntry_ne (check_slot PySem.F.cmpKind_ne PySem.F.cmpSplit_ne (I.type.andThen (looks_mroIn X hm)) (PySem.F.cmpArgs_ne _ _) ?_))
  unfold Builtin.«object.__ne__»
  refine wpAny_bind (wpAny_pure ?_)
  refine wpAny_bind (wpAny_cRoomFor hu ?_)
  refine wpAny_bind (ifBound_K X I he hf (wpAny_mono h (fun v s' hv => ?_) fun _ _ e => e))
  cases v <;> first | exact hv.elim | skip
  rename_i r
  refine wpAny_bind (wpAny_pure ?_)
  exact wpAny_pure hv
theorem neO_K {Q : Value → Shared → Prop} (hu : A.units < cLine) (hu1 : A.in1.units < cLine) (F : Fr h₀ L s.heap m) (X₀ : K.In h₀) (I : InstAt s.heap x ox C od) (hb : Looks (model prog w) s.heap (typeOf b) tb) (hn : notFirst K C tb = true)
    (hs : findIn K (.ref C) "__ne__" = some (some (.builtin "object.__ne__"))) (hm : mroIn K C (.type "object") = some true) (he : findIn K (.ref C) "__eq__" = some (some (.ref f))) (hf : isFn K (.ref f) = true)
    (h : wpAny (model prog w) A.in1 (call (.ref f) [.ref x, b]) (NeBack Q) E s) : wpAny (model prog w) A (richCompare .NotEq (.ref x) b) Q E s := by
  have X := X₀.keeps F.keep
  have one : wpAny (model prog w) A (tryCompare (.ref x) (cmpInfo .NotEq).2.1 b) (fun r s' => ∃ v, r = some v ∧ Q v s') E s := by
    have fin : wpAny (model prog w) A (call (.builtin "object.__ne__") ([.ref x] ++ [b]) >>= fun v => pure (some v)) (fun r s' => ∃ v, r = some v ∧ v ≠ .notImplemented ∧ Q v s') E s := by
      refine wpAny_bind (ne_entry (Q := fun v s' => wpAny (model prog w) A (pure (some v)) (fun r s' => ∃ v, r = some v ∧ v ≠ .notImplemented ∧ Q v s') E s') hu1 X I hm he hf (wpAny_mono h (fun v s' hv => ?_) fun _ _ e => e))
      cases v <;> first | exact hv.elim | skip
      exact wpAny_pure ⟨_, rfl, by simp, hv⟩
    have two : wpAny (model prog w) A (callSpecialIfBound? (.ref x) "__ne__" [b]) (fun r s' => ∃ v, r = some v ∧ v ≠ .notImplemented ∧ Q v s') E s := by
      simp only [callSpecialIfBound?, bindSpecialIfBound?]
      refine wpAny_holding (wpAny_bind (wpAny_bind (wpAny_bind (I.type.here ((looks_findIn X hs).here ?_)))))
      refine wpAny_bind (wpAny_askSetting (wpAny_ite ?_))
      split
      · exact wpAny_bind ((Looks.of_pure (ne_bind _)).here (wpAny_pure (by exact fin)))
      · exact wpAny_tryCatch (wpAny_bind ((Looks.of_pure (ne_bind _)).here (wpAny_pure (by exact fin))))
    unfold tryCompare
    refine wpAny_bind (wpAny_mono two (fun r s' z => ?_) fun _ _ e => e)
    obtain ⟨v, rfl, ne, hq⟩ := z
    cases v <;> first | exact absurd rfl ne | exact wpAny_pure ⟨_, rfl, hq⟩
  unfold richCompare
  simp only [oneThing_ref]
  refine wpAny_holding (wpAny_bind (wpAny_cRoomFor hu ?_))
  refine wpAny_bind (I.type.here (wpAny_bind (hb.here ?_)))
  split
  · rename_i q
    have e : subIn K tb (.ref C) = some false := by
      rcases Bool.or_eq_true_iff.mp hn with e | e
      · rw [beq_iff_eq.mp e] at q; simp at q
      · exact beq_iff_eq.mp e
    refine wpAny_bind ((looks_subIn X e).here ?_)
    simp only [Bool.false_eq_true, if_false]
    refine wpAny_bind (wpAny_mono one (fun r s' z => ?_) fun _ _ e => e)
    obtain ⟨v, rfl, hq⟩ := z
    exact wpAny_pure hq
  · refine wpAny_bind (wpAny_pure ?_)
    simp only [Bool.false_eq_true, if_false]
    refine wpAny_bind (wpAny_mono one (fun r s' z => ?_) fun _ _ e => e)
    obtain ⟨v, rfl, hq⟩ := z
    exact wpAny_pure hq
end
def rNeO (Ca : Addr) (sp : Sp) : R2 := fun x y H Q => ∃ a dx fs b dy gs, x = .ref a ∧ y = .ref b ∧ H a = some (.ins Ca dx fs) ∧ H b = some (.ins Ca dy gs) ∧ sp [x, y] H (fun v H' => ∃ r : Bool, v = .bl r ∧ Q (.bl (!r)) H') E0
def UnRS (X : Cx) (f : Value → Sem Value) (r : L2.St → V → Hp → VK → Prop) : Prop :=
  ∀ (pins : List (Addr × Obj)) (s : Shared) (σ : L2.St) (H : Hp) (x : V) (v : Value) (Q : VK), Inv X pins σ H s → RelV x v → r σ x H Q → wpAny (model X.prog X.w) X.A (f v) (EP X pins σ Q) X.xe s
def tUnS (r : L2.St → V → Hp → VK → Prop) (ta : TE) : TE := fun σ H Q => ta σ H fun x H1 => r σ x H1 Q
def rInvO (Ca : Addr) (sp : Sp) (E : L2.St → XK) : L2.St → V → Hp → VK → Prop := fun σ x H Q => ∃ a dx fs, x = .ref a ∧ H a = some (.ins Ca dx fs) ∧ sp [x] H Q (E σ)
section
variable {X : Cx} {C : Wd} {W : WX} {e o a b : Expr} {es : List Expr} {p q : M Val} {pa : M (List Val)} {pos p0 p1 p2 apos : Pos} {k : Nat} {f Ca : Addr} {fd : FuncData} {ps : List Str} {sp : Sp} {E : L2.St → XK} {x m c : Str} {t : TA} {n : Nat} {F : M Val} {ta tb : TE}
theorem opO_ne (G : FnOk X.prog X.w X.K X.mg X.base (L2.CX X.prog X.w) k f fd ps sp) (room : Room (k + 1) X.A) (bi : Binds X.K fd ps []) (hs : PySem.W.findIn X.K (.ref Ca) "__ne__" = some (some (.builtin "object.__ne__"))) (hm : mroIn X.K Ca (.type "object") = some true)
    (he : PySem.W.findIn X.K (.ref Ca) "__eq__" = some (some (.ref f))) (hf : PySem.W.isFn X.K (.ref f) = true) : OpR X (compareOp .NotEq) (rNeO Ca sp) := by
  intro pins s σ H x y v u Q inv rx ry h
  obtain ⟨a, dx, fs, b, dy, gs, rfl, rfl, ha, hb, q⟩ := h
  cases (show v = Value.ref a from rx)
  cases (show u = Value.ref b from ry)
  obtain ⟨_, _, J⟩ := inst_of inv ha
  obtain ⟨_, _, J'⟩ := inst_of inv hb
  obtain ⟨mm, hF⟩ := inv.fr
  show wpAny (model X.prog X.w) X.A (richCompare .NotEq _ _) _ X.xe s
  refine neO_K (tb := .ref Ca) room.units0 room.in1.units0 hF inv.ok.mod.kin J J'.type (by simp [PySem.W.notFirst]) hs hm he hf ?_
  have rl : Vals [V.ref a, V.ref b] [Value.ref a, Value.ref b] := .cons rfl (.cons rfl .nil)
  refine wpAny_mono (run_in G room bi inv rl q) (fun w s' z => ?_) fun _ _ z => z
  obtain ⟨w', H', inv', rw', r, rfl, q'⟩ := z
  cases (show w = Value.bool r from rw')
  exact ⟨.bl (!r), H', inv', rfl, q'⟩
def twoN (c : Str) (F : M Val) (alt : D → D → Option Val) (p q : M Val) : M Val := p.bind fun v => q.bind fun u env =>
  if isIns c "" env v && isIns c "" env u then (match nox (callE 2 F [v, u]) env with
    | some (.ok (.fz (.bl r)) e) => some (.ok (.fz (.bl (!r))) e)
    | _ => none) else (deref env v).bind fun da => (deref env u).bind fun db => (alt da db).map fun w => .ok w env
theorem twoN_read {r : R2} {alt : D → D → Option Val} {σ : L2.St} {H : Hp} {Q : VK} (hc : C.mg c = some (.ref Ca)) (hg : OpT C r alt) (h : Tm C W (RVx C) (twoN c F alt p q) σ H Q) :
    tOp (fun x y H Q => rNeO Ca (spF C 2 F) x y H Q ∨ r x y H Q) (tX C W p) (tX C W q) σ H Q := by
  obtain ⟨env, Hs, r1, rp, e, fin⟩ := h
  refine Tm.bindAt rp e fin fun va env1 v H1 Hs1 hp st rv e1 => ?_
  refine Tm.bindAt st.rep e1 (fin.later st fun _ _ _ _ _ s2 rv => rv.later st) fun vb env2 u H2 Hs2 hq st2 rv2 e2 => ?_
  have st12 := st.trans st2
  split at e2
  · rename_i hi
    obtain ⟨h1, h2⟩ := Bool.and_eq_true_iff.mp hi
    have v1 : VV C Hs2 σ va v := by
      cases va with
      | fr d => cases h1
      | fz d => exact Rp.mono st2.ex _ _ rv
      | bor i => exact rv
    have v2 : VV C Hs2 σ vb u := by
      cases vb with
      | fr d => cases h2
      | fz d => exact rv2
      | bor i => exact rv2
    obtain ⟨a, dx, fs, e3, e4, _⟩ := isIns_at st12.rep hc v1 h1
    obtain ⟨b, dy, gs, e5, e6, _⟩ := isIns_at st12.rep hc v2 h2
    split at e2
    case h_2 => cases e2
    rename_i z e7 hcall
    cases e2
    refine .inl ⟨a, dx, fs, b, dy, gs, e3, e5, e4, e6, call_nox st12.rep (W := W) (l := [va, vb]) ⟨_, _, rfl, v1, _, _, rfl, v2, rfl⟩ hcall fun w H' Hs' s2 rw' => ?_⟩
    have ew : w = .bl z := by simpa [RV, Rp] using rw'
    exact ⟨z, ew, fin (.bl (!z)) H' Hs' (st12.trans s2) (by simp [RVx, RV, Rp])⟩
  · obtain ⟨x, da, e2⟩ := Option.bind_eq_some_iff.mp e2
    obtain ⟨y, db, e2⟩ := Option.bind_eq_some_iff.mp e2
    obtain ⟨val, gv, e3⟩ := Option.map_eq_some_iff.mp e2
    cases e3
    have v1 : VV C Hs2 σ va v := by
      cases va with
      | fr d => cases da
      | fz d => exact Rp.mono st2.ex _ _ rv
      | bor i => exact rv
    have v2 : VV C Hs2 σ vb u := rv2.vv db
    exact .inr (hg Hs2 H2 v u x y val Q st2.rep.ex (st2.rep.deref v1 da) (st2.rep.deref v2 db) gv fun v' H' Hs' gr rg => fin.op st12 gr rg)
theorem x_neO (hc : X.mg c = some (.ref Ca)) (G : FnOk X.prog X.w X.K X.mg X.base (L2.CX X.prog X.w) k f fd ps (spF (wdOf X) 2 F)) (hr : Room (k + 1) X.A) (hb : Binds X.K fd ps []) (hs : PySem.W.findIn X.K (.ref Ca) "__ne__" = some (some (.builtin "object.__ne__"))) (hm : mroIn X.K Ca (.type "object") = some true)
    (he : PySem.W.findIn X.K (.ref Ca) "__eq__" = some (some (.ref f))) (hf : PySem.W.isFn X.K (.ref f) = true)
    {r : R2} {alt : D → D → Option Val} (hr2 : OpR X (compareOp .NotEq) r) (hg : OpT (wdOf X) r alt) (ha : PE X a (tX (wdOf X) W p)) (hb' : PE X b (tX (wdOf X) W q)) : PE X (.Compare a [.NotEq] [b] pos) (tX (wdOf X) W (twoN c F alt p q)) :=
  pe_weak (pe_cmpR ((opO_ne G hr hb hs hm he hf).or hr2) ha hb' (nomark b)) fun _ _ _ h => twoN_read hc hg h
theorem b_neO (hc : X.mg c = some (.ref Ca)) (G : FnOk X.prog X.w X.K X.mg X.base (L2.CX X.prog X.w) k f fd ps (spF (wdOf X) 2 F)) (hr : Room (k + 1) X.A) (hb : Binds X.K fd ps []) (hs : PySem.W.findIn X.K (.ref Ca) "__ne__" = some (some (.builtin "object.__ne__"))) (hm : mroIn X.K Ca (.type "object") = some true)
    (he : PySem.W.findIn X.K (.ref Ca) "__eq__" = some (some (.ref f))) (hf : PySem.W.isFn X.K (.ref f) = true)
    {r : R2} {alt : D → D → Option Val} (hr2 : OpR X (compareOp .NotEq) r) (hg : OpT (wdOf X) r alt) (ha : PE X a (tX (wdOf X) W p)) (hb' : PE X b (tX (wdOf X) W q)) : PT X (.Compare a [.NotEq] [b] pos) (tT (wdOf X) W (bt (twoN c F alt p q))) :=
  pt_weak (pt_cmpR ((opO_ne G hr hb hs hm he hf).or hr2) ha hb' (nomark b)) fun _ _ _ h => twoN_read hc hg (tX_bt h)
theorem opO_inv (G : FnOk X.prog X.w X.K X.mg X.base (L2.CX X.prog X.w) k f fd ps sp) (room : Room k X.A) (bi : Binds X.K fd ps []) (out : ∀ σ, PassesAt (L2.CX X.prog X.w) X σ (E σ)) (hs : PySem.W.findIn X.K (.ref Ca) "__invert__" = some (some (.ref f)))
    (hf : PySem.W.isFn X.K (.ref f) = true) : UnRS X (unaryOp .Invert) (rInvO Ca sp E) := by
  intro pins s σ H x v Q inv rx h
  obtain ⟨a, dx, fs, rfl, ha, q⟩ := h
  cases (show v = Value.ref a from rx)
  obtain ⟨_, _, J⟩ := inst_of inv ha
  obtain ⟨mm, hF⟩ := inv.fr
  refine PySem.W.ksp_inv hF inv.ok.mod.kin J hs hf ?_
  have rl : Vals [V.ref a] [Value.ref a] := .cons rfl .nil
  exact run_fnS G room bi (out σ) inv rl q
theorem pe_unS {op : UnaryOp} {r : L2.St → V → Hp → VK → Prop} (ho : UnRS X (unaryOp op) r) (ha : PE X a ta) : PE X (.UnaryOp op a pos) (tUnS r ta) :=
  ⟨fun pins s σ H Q I h => UnaryOp_ (thn (ha.run pins s σ H _ I h) fun v s1 ⟨x, H1, I1, r1, q1⟩ => ho pins s1 σ H1 x v Q I1 r1 q1)⟩
def xInvO (c : Str) (F : M Val) (p : M Val) : M Val := p.bind fun v env => if isIns c "" env v then callE 1 F [v] env else none
theorem invO_read {σ : L2.St} {H : Hp} {Q : VK} (hc : C.mg c = some (.ref Ca)) (h : Tm C W (RVx C) (xInvO c F p) σ H Q) : tUnS (rInvO Ca (spF C 1 F) (WE W)) (tX C W p) σ H Q := by
  obtain ⟨env, Hs, r1, rp, e, fin⟩ := h
  refine Tm.bindAt rp e fin fun va env1 v H1 Hs1 hp st rv e1 => ?_
  split at e1
  case isFalse => cases e1
  rename_i hi
  have v1 : VV C Hs1 σ va v := by
    cases va with
    | fr d => cases hi
    | fz d => exact rv
    | bor i => exact rv
  obtain ⟨a, dx, fs, e3, e4, _⟩ := isIns_at st.rep hc v1 hi
  exact ⟨a, dx, fs, e3, e4, call_at st.rep (l := [va]) ⟨_, _, rfl, v1, rfl⟩ e1 (laterX st fin)⟩
theorem x_invO (hc : X.mg c = some (.ref Ca)) (G : FnOk X.prog X.w X.K X.mg X.base (L2.CX X.prog X.w) k f fd ps (spF (wdOf X) 1 F)) (hr : Room k X.A) (hb : Binds X.K fd ps []) (tk : Takes X W) (hs : PySem.W.findIn X.K (.ref Ca) "__invert__" = some (some (.ref f)))
    (hf : PySem.W.isFn X.K (.ref f) = true) (ha : PE X a (tX (wdOf X) W p)) : PE X (.UnaryOp .Invert a pos) (tX (wdOf X) W (xInvO c F p)) :=
  pe_weak (pe_unS (opO_inv (E := WE W) G hr hb (fun σ => passAt tk σ) hs hf) ha) fun _ _ _ h => invO_read hc h
end
end VE
namespace VE
open PySem PySem.Spec PyProof.Rows L2 PySem.W
section
variable {prog : Program} {w : World} {M : Model} {A : Around} {E : Value → Shared → Prop} {s : Shared} {K : Frag} {x C L f : Addr} {h₀ : Heap} {m : Str → Option Value} {ox : Obj} {od : Option Obj} {b tb : Value} {nm : String}
theorem fillsI_no {h : Heap} {cd : ClassData} {add : Bool} (X : K.In h) (hc : clsIn K C = some cd) (hm : cd.mro = [.ref C, .type "object"]) (hs : findIn K (.ref C) (dunderI nm) = some none) (ho : findIn K (.type "object") (dunderI nm) = some none) :
    Looks M h (fillsInplaceSlot (.ref C) nm add) false := by
  intro A Q E s k q
  have Lm : Looks M h (mroOf (.ref C)) cd.mro := (looks_clsIn X hc).andThen (f := fun cd => pure cd.mro) .now
  have Lm' := Lm.keeps k
  obtain ⟨hh, g, d, tt, os⟩ := s
  have X' : K.In hh := X.keeps k
  have L1 : Looks M hh (typeLookup (.ref C) (dunderI nm)) none := looks_findIn X' hs
  have L2 : Looks M hh (typeLookup (.type "object") (dunderI nm)) none := looks_findIn X' ho
  unfold fillsInplaceSlot
  refine wpAny_bind (Lm'.at ?_)
  rw [hm, List.anyM_cons]
  refine wpAny_bind ?_
  refine wpAny_bind (L1.here ?_)
  refine wpAny_pure ?_
  simp only []
  rw [List.anyM_cons]
  refine wpAny_bind ?_
  refine wpAny_bind (L2.here ?_)
  refine wpAny_pure ?_
  exact wpAny_pure q
theorem inop_K {op : Operator} {cd : ClassData} {Q : Value → Shared → Prop} (F : Fr h₀ L s.heap m) (X₀ : K.In h₀) (I : InstAt s.heap x ox C od) (hb : Looks (model prog w) s.heap (typeOf b) (.ref C)) (hcd : clsIn K C = some cd) (hm : cd.mro = [.ref C, .type "object"])
    (hi : findIn K (.ref C) (dunderI op.info.2) = some none) (ho : findIn K (.type "object") (dunderI op.info.2) = some none) (hs : findIn K (.ref C) (PySem.dunder op.info.2) = some (some (.ref f))) (hf : isFn K (.ref f) = true)
    (h : wpAny (model prog w) A (call (.ref f) [.ref x, b]) (PySem.W.CmpBack Q) E s) : wpAny (model prog w) A (inplaceOp op (.ref x) b) Q E s := by
  have X := X₀.keeps F.keep
  unfold inplaceOp
  refine wpAny_holding ?_
  refine wpAny_bind (I.type.here (wpAny_bind ((fillsI_no X hcd hm hi ho).here ?_)))
  simp only [Bool.false_eq_true, if_false]
  refine wpAny_bind ?_
  unfold binaryOp1
  refine wpAny_bind (I.type.here (wpAny_bind (hb.here (wpAny_bind ((fills_K X hcd hm hs).here ?_)))))
  simp only [beq_self_eq_true, if_true]
  refine wpAny_bind (wpAny_pure ?_)
  simp only [Bool.and_false, Bool.false_eq_true, if_false, Bool.false_and]
  refine wpAny_bind (wpAny_pure ?_)
  simp only [Bool.false_eq_true, if_false]
  refine wpAny_bind (m := tryMethod (.ref x) _ b) ?_
  unfold tryMethod
  refine wpAny_bind (special_fn X I hs (beq_iff_eq.mp hf) (wpAny_mono h (fun v s' hv => ?_) fun _ _ e => e))
  cases v <;> first | exact hv.elim | exact wpAny_pure (wpAny_pure (wpAny_pure hv))
end
section
variable {X : Cx} {C : Wd} {W : WX} {e o a b : Expr} {es : List Expr} {p q : M Val} {pa : M (List Val)} {pos p0 p1 p2 pos' : Pos} {k : Nat} {f Ca : Addr} {fd : FuncData} {ps : List Str} {sp : Sp} {E : L2.St → XK} {x m c : Str} {t : TA} {n : Nat} {F : M Val} {ta tb : TE}
theorem iopO {op : Operator} {cd : ClassData} (G : FnOk X.prog X.w X.K X.mg X.base (L2.CX X.prog X.w) k f fd ps sp) (room : Room k X.A) (bi : Binds X.K fd ps []) (hcd : clsIn X.K Ca = some cd) (hm : cd.mro = [.ref Ca, .type "object"])
    (hi : findIn X.K (.ref Ca) (dunderI op.info.2) = some none) (ho : findIn X.K (.type "object") (dunderI op.info.2) = some none) (hs : findIn X.K (.ref Ca) (PySem.dunder op.info.2) = some (some (.ref f))) (hf : isFn X.K (.ref f) = true) : PIp X op (rEqO Ca sp) := by
  intro pins s σ H x y v u Q inv rx ry h
  obtain ⟨a, dx, fs, b, dy, gs, rfl, rfl, ha, hb, q⟩ := h
  cases (show v = Value.ref a from rx)
  cases (show u = Value.ref b from ry)
  obtain ⟨_, _, J⟩ := inst_of inv ha
  obtain ⟨_, _, J'⟩ := inst_of inv hb
  obtain ⟨mm, hF⟩ := inv.fr
  refine inop_K hF inv.ok.mod.kin J J'.type hcd hm hi ho hs hf ?_
  have rl : Vals [V.ref a, V.ref b] [Value.ref a, Value.ref b] := .cons rfl (.cons rfl .nil)
  refine wpAny_mono (run_fnS (E := fun _ => E0) G room bi (fun pins H s er s' inv end_ => passL pins σ H s er s' inv end_) inv rl q) (fun w s' z => ?_) fun _ _ z => z
  obtain ⟨w', H', inv', rw', q'⟩ := z
  have ep : EP X pins σ Q w s' := ⟨w', H', inv', rw', q'⟩
  cases w <;> first | exact ep | exact (rel_ni rw').elim
def xOpN (c : Str) (F : M Val) (p q : M Val) : M Val := p.bind fun v => q.bind fun u env => if isIns c "" env v && isIns c "" env u then nox (callE 2 F [v, u]) env else none
theorem opN_read {σ : L2.St} {H : Hp} {Q : VK} (hc : C.mg c = some (.ref Ca)) (h : Tm C W (RVx C) (xOpN c F p q) σ H Q) : tOp (rEqO Ca (spF C 2 F)) (tX C W p) (tX C W q) σ H Q := by
  obtain ⟨env, Hs, r1, rp, e, fin⟩ := h
  refine Tm.bindAt rp e fin fun va env1 v H1 Hs1 hp st rv e1 => ?_
  refine Tm.bindAt st.rep e1 (fin.later st fun _ _ _ _ _ s2 rv => rv.later st) fun vb env2 u H2 Hs2 hq st2 rv2 e2 => ?_
  have st12 := st.trans st2
  split at e2
  case isFalse => cases e2
  rename_i hi
  obtain ⟨h1, h2⟩ := Bool.and_eq_true_iff.mp hi
  have v1 : VV C Hs2 σ va v := by
    cases va with
    | fr d => cases h1
    | fz d => exact Rp.mono st2.ex _ _ rv
    | bor i => exact rv
  have v2 : VV C Hs2 σ vb u := by
    cases vb with
    | fr d => cases h2
    | fz d => exact rv2
    | bor i => exact rv2
  obtain ⟨a, dx, fs, e3, e4, _⟩ := isIns_at st12.rep hc v1 h1
  obtain ⟨b, dy, gs, e5, e6, _⟩ := isIns_at st12.rep hc v2 h2
  exact ⟨a, dx, fs, b, dy, gs, e3, e5, e4, e6, call_nox st12.rep (l := [va, vb]) ⟨_, _, rfl, v1, _, _, rfl, v2, rfl⟩ e2 (laterX st12 fin)⟩
theorem xv_read {i : Nat} {σ : L2.St} {H : Hp} {Q : VK} (h : tX C W (xv i) σ H Q) : ∃ v, σ[i]? = some (some v) ∧ Q v H := by
  obtain ⟨env, Hs, r, rp, e, fin⟩ := h
  unfold xv at e
  split at e
  · rename_i d hd
    cases e
    obtain ⟨v, ev, q⟩ := rp.fz hd
    exact ⟨v, ev, fin v H Hs (Stp.refl rp) q⟩
  · rename_i b hd
    cases e
    obtain ⟨v, ev, q⟩ := rp.at_ i _ hd
    exact ⟨v, ev, fin v H Hs (Stp.refl rp) ev⟩
  · cases e
theorem s_augO {op : Operator} {cd : ClassData} {i : Nat} (hN : X.N.Nodup) (hi' : X.N[i]? = some x) (hx : Loc X.env.scope x) (hc : X.mg c = some (.ref Ca)) (G : FnOk X.prog X.w X.K X.mg X.base (L2.CX X.prog X.w) k f fd ps (spF (wdOf X) 2 F)) (hr : Room k X.A) (hb : Binds X.K fd ps [])
    (hcd : clsIn X.K Ca = some cd) (hm : cd.mro = [.ref Ca, .type "object"]) (hi : findIn X.K (.ref Ca) (dunderI op.info.2) = some none) (ho : findIn X.K (.type "object") (dunderI op.info.2) = some none)
    (hs : findIn X.K (.ref Ca) (PySem.dunder op.info.2) = some (some (.ref f))) (hf : isFn X.K (.ref f) = true) (he : PE X e (tX (wdOf X) W p)) (hl : X.fn x = true ∨ X.env.scope.names.lookup x = some .local := by first | exact .inl rfl | exact .inr rfl | assumption) :
    PS X (.AugAssign (.Name x pos') op e pos) (tS (wdOf X) W (sSet i (xOpN c F (xv i) p))) :=
  ps_weak (ps_aug hN hi' hx he (iopO (sp := spF (wdOf X) 2 F) G hr hb hcd hm hi ho hs hf) hl) fun D σ H ⟨env, Hs, r1, rp, e, fin⟩ => by
    have h : tX (wdOf X) W (xOpN c F (xv i) p) σ H (fun z H2 => D.nx (σ.set i (some z)) H2) := by
      refine Tm.with rp e fin fun a env1 v H1 Hs1 hp st rv e1 => ?_
      cases hw : stow i a env1 with
      | none => rw [hw] at e1; cases e1
      | some env2 =>
        rw [hw] at e1
        cases e1
        exact fin _ H1 Hs1 (st.stow hw rv)
    exact xv_read (opN_read hc h)
def MroO (K : Frag) (Ca : Addr) : Prop := ∃ cd, clsIn K Ca = some cd ∧ cd.mro = [.ref Ca, .type "object"]
theorem s_augM {op : Operator} {i : Nat} (hN : X.N.Nodup) (hi' : X.N[i]? = some x) (hx : Loc X.env.scope x) (hc : X.mg c = some (.ref Ca)) (G : FnOk X.prog X.w X.K X.mg X.base (L2.CX X.prog X.w) k f fd ps (spF (wdOf X) 2 F)) (hr : Room k X.A) (hb : Binds X.K fd ps [])
    (hM : MroO X.K Ca) (hi : findIn X.K (.ref Ca) (dunderI op.info.2) = some none) (ho : findIn X.K (.type "object") (dunderI op.info.2) = some none)
    (hs : findIn X.K (.ref Ca) (PySem.dunder op.info.2) = some (some (.ref f))) (hf : isFn X.K (.ref f) = true) (he : PE X e (tX (wdOf X) W p)) (hl : X.fn x = true ∨ X.env.scope.names.lookup x = some .local := by first | exact .inl rfl | exact .inr rfl | assumption) :
    PS X (.AugAssign (.Name x pos') op e pos) (tS (wdOf X) W (sSet i (xOpN c F (xv i) p))) := by
  obtain ⟨cd, hcd, hm⟩ := hM
  exact s_augO hN hi' hx hc G hr hb hcd hm hi ho hs hf he hl
theorem no_ir {K : Frag} : findIn K (.type "object") (dunderI Operator.RShift.info.2) = some none := by kernel_rfl
theorem no_io {K : Frag} : findIn K (.type "object") (dunderI Operator.BitOr.info.2) = some none := by kernel_rfl
end
end VE
namespace VE
open PySem PySem.Spec PyProof.Rows L2
section
variable {X : Cx}
theorem ps_parC {i j : Nat} {x y : Str} {a b : Expr} {ta : TA} {px py pt pos : Pos} {kt k2 pt2} (hc : X.calm = true) (hN : X.N.Nodup) (hi : X.N[i]? = some x) (hj : X.N[j]? = some y)
    (gx : PG X (.Name x px) (gName i)) (gy : PG X (.Name y py) (gName j)) (ha : PA X [a, b] ta)
    (hw : swappedStores [.Tuple [.Name x px, .Name y py] kt pt] (.Tuple [a, b] k2 pt2) X.env = pure none)
    (hs : swapsWithSole [.Tuple [.Name x px, .Name y py] kt pt] (.Tuple [a, b] k2 pt2) pos.line X.env = pure false)
    (h1 : (assignEach [.Tuple [.Name x px, .Name y py] kt pt] X.env).map (·.2) = [assign (.Tuple [.Name x px, .Name y py] kt pt) X.env])
    (hg : PGs X [.Name x px, .Name y py] (gCons (gName i) (gCons (gName j) gNil)))
    (hn : (assignEach [.Name x px, .Name y py] X.env).length = 2) (hst : (assignEach [.Name x px, .Name y py] X.env).findIdx? (·.1) = none) :
    PS X (.Assign [.Tuple [.Name x px, .Name y py] kt pt] (.Tuple [a, b] k2 pt2) pos) (tPar i j ta) := by
  refine ⟨fun pins s σ H D I h => ?_⟩
  refine wpAny_Assign_stores (Tuple_ (thn (ha.run _ pins s σ H _ I h) fun us s1 ⟨vs, H1, I1, r1, q1⟩ => ?_)) hs hw
  obtain ⟨v, w, e1, q1⟩ := q1
  subst e1
  obtain ⟨u1, u2, rfl, rv, rw'⟩ : ∃ u1 u2, us = [u1, u2] ∧ RelV v u1 ∧ RelV w u2 := by
    cases r1 with
    | cons p q =>
      cases q with
      | cons p' q' =>
        cases q'
        exact ⟨_, _, rfl, p, p'⟩
  refine wpAny_newObj_type ?_ (by show 2 ≤ sizeLine; decide)
  have I2 : Inv X pins σ H1 { s1 with heap := s1.heap.push { cls := .type "tuple", data := .seq [u1, u2].toArray } } := I1.kept (t' := s1.toks) fun b o e => Heap.get?_push_of_some _ e
  rw [h1]
  refine thn (Q := fun _ s2 => L2.SP X pins D .next s2) (assign_Tuple_tuple (items := #[u1, u2]) (I.ok.hd hc) (IsTup.new s1.heap _) (by rw [hn]; rfl) hst fun h' hx' => ?_) fun _ s2 q => q
  have I3 := I2.kept (h' := h') (t' := s1.toks) fun b o e => hx' b o (Nat.ne_of_lt (Heap.lt_size e)) e
  exact hg.run pins _ σ H1 [v, w] _ D.nx I3 (.cons rv (.cons rw' .nil)) ⟨v, [w], rfl, w, [], rfl, rfl, q1⟩
end
section
variable {X : Cx} {W : WX} {a b : Expr} {p q : M Val} {pos : Pos}
theorem s_parC {i j : Nat} {x y : Str} {px py pt : Pos} {kt k2 pt2} (hc : X.calm = true) (hN : X.N.Nodup) (hi : X.N[i]? = some x) (hj : X.N[j]? = some y)
    (gx : PG X (.Name x px) (gName i)) (gy : PG X (.Name y py) (gName j))
    (ha : PE X a (tX (wdOf X) W p)) (hb : PE X b (tX (wdOf X) W q)) (hw : swappedStores [.Tuple [.Name x px, .Name y py] kt pt] (.Tuple [a, b] k2 pt2) X.env = pure none := by rfl)
    (hs : swapsWithSole [.Tuple [.Name x px, .Name y py] kt pt] (.Tuple [a, b] k2 pt2) pos.line X.env = pure false := by rfl) (s1 : starEach (a :: [b]) X.env = (false, eval a X.env) :: starEach [b] X.env := by rfl) (s2 : starEach (b :: []) X.env = (false, eval b X.env) :: starEach [] X.env := by rfl)
    (h1 : (assignEach [.Tuple [.Name x px, .Name y py] kt pt] X.env).map (·.2) = [assign (.Tuple [.Name x px, .Name y py] kt pt) X.env] := by rfl)
    (hgs : (assignEach (.Name x px :: [.Name y py]) X.env).map (·.2) = assign (.Name x px) X.env :: (assignEach [.Name y py] X.env).map (·.2) := by rfl)
    (hgs2 : (assignEach (.Name y py :: []) X.env).map (·.2) = assign (.Name y py) X.env :: (assignEach [] X.env).map (·.2) := by rfl)
    (hn : (assignEach [.Name x px, .Name y py] X.env).length = 2 := by rfl) (hst : (assignEach [.Name x px, .Name y py] X.env).findIdx? (·.1) = none := by rfl) :
    PS X (.Assign [.Tuple [.Name x px, .Name y py] kt pt] (.Tuple [a, b] k2 pt2) pos) (tS (wdOf X) W (sPar i j p q)) :=
  ps_weak (ps_parC hc hN hi hj gx gy (pa_cons ha (pa_cons hb pa_nil s2) s1) hw hs h1 (pgs_cons gx (pgs_cons gy pgs_nil hgs2) hgs) hn hst) fun D σ H ⟨env, Hs, r1, rp, e, fin⟩ => by
    refine Tm.with rp e fin fun va env1 v H1 Hs1 hp st rv e1 => ?_
    refine Tm.with st.rep e1 (fin.later st) fun vb env2 u H2 Hs2 hq st2 ru e2 => ?_
    cases h1 : stow i va env2 with
    | none => rw [h1] at e2; cases e2
    | some env3 =>
      rw [h1, Option.bind_some] at e2
      cases h2 : stow j vb env3 with
      | none => rw [h2] at e2; cases e2
      | some env4 =>
        rw [h2] at e2; cases e2
        have sA := (st.trans st2).stow h1 (RV.carry st2 (stow_nb h1) rv)
        exact ⟨v, u, rfl, fin _ H2 Hs2 (sA.stow h2 (RV.after st st2 rv ru h1 (stow_nb h2)))⟩
end
end VE
namespace VE
open PySem PySem.Spec PyProof.Rows L2
section
variable {X : Cx} {W : WX} {e st : Expr} {p : M Val} {ps : M (Option Int)} {pos p2 : Pos}
def tRev (K : PySem.W.Frag) (te : TE) (ts : TO) : TE := fun σ H Q => te σ H fun x H1 => ts σ H1 fun k H2 => k = some (-1) ∧ ∃ a xs, x = .ref a ∧ SqL K H2 a xs ∧ ∀ p, H2 p = none → Q (.ref p) (upd H2 p (.lst xs.reverse))
theorem pe_rev {te : TE} {ts : TO} (he : PE X e te) (hs : PO X (some st) ts) : PE X (.Subscript e (.Slice none none (some st) p2) pos) (tRev X.K te ts) := by
  refine ⟨fun pins s σ H Q I h => ?_⟩
  refine Subscript_ (thn (he.run pins s σ H _ I h) fun v s1 ⟨x, H1, I1, r1, q1⟩ => ?_)
  refine wpAny_Slice ?_
  rw [evalPart_none]
  refine wpAny_pure ?_
  refine wpAny_pure ?_
  refine thn (hs.run pins s1 σ H1 _ I1 q1) fun vk s3 ⟨k, H3, I3, pk, q3⟩ => ?_
  obtain ⟨rfl, a, xs, rfl, hx, q⟩ := q3
  cases r1
  have I4 : Inv X pins σ H3 { s3 with heap := s3.heap.push { cls := .type "slice", data := .fields #[.none, .none, vk] } } := I3.kept (t' := s3.toks) fun b ob q => Heap.get?_push_of_some _ q
  obtain ⟨its, r, ht, hz⟩ := I4.list hx
  have hlen := r.length
  show wpAny (model X.prog X.w) X.A (subscriptTail e (.Slice none none (some st) p2) _ (.ref s3.heap.objs.size)) (EP X pins σ Q) X.xe { s3 with heap := s3.heap.push { cls := .type "slice", data := .fields #[.none, .none, vk] } }
  refine tail_any (ops := [.ref a, .ref s3.heap.objs.size]) ht.isList.typeIs slot_list_getitem.lookup ?_ (by with_unfolding_all rfl)
  refine wpAny_getItem_list_slice ht.isList (Heap.IsSliceOf.new ..) .none .none pk (by simp) ?_ (by rw [List.size_toArray] <;> omega)
  rw [PySem.W.krv_pick]
  refine ⟨.ref _, _, I4.laid (t' := s3.toks) (o := .lst xs.reverse) (fun b ob q => Heap.get?_push_of_some _ q) (Nat.le_refl _) ?_, rfl, q _ (I4.hok.fresh (Nat.le_refl _))⟩
  exact ⟨by rw [List.length_reverse]; exact hz, _, 0, r.reverse, Heap.get?_push_size _ rfl⟩
def revD : D → Option Val
  | .lst ds => some (.fr (.lst ds.reverse))
  | _ => none
def xRev (p : M Val) (ps : M (Option Int)) : M Val := p.bind fun a => ps.bind fun k env => if k = some (-1) then (deref env a).bind fun d => (revD d).map fun v => .ok v env else none
theorem x_rev (ha : PE X e (tX (wdOf X) W p)) (hs : PO X (some st) (tO (wdOf X) W ps)) : PE X (.Subscript e (.Slice none none (some st) p2) pos) (tX (wdOf X) W (xRev p ps)) :=
  pe_weak (pe_rev ha hs) fun σ H Q ⟨env, Hs, r1, rp, e, fin⟩ => by
    refine Tm.bindAt rp e fin fun va env1 v H1 Hs1 hp st rv e1 => ?_
    refine Tm.bindAt st.rep e1 (laterX st fin) fun l env2 l' H2 Hs2 hq st2 rl e2 => ?_
    cases (show l = l' from rl)
    have st12 := st.trans st2
    split at e2
    · rename_i hk
      subst hk
      cases hd : deref env2 va with
      | none => rw [hd] at e2; cases e2
      | some d =>
        rw [hd, Option.bind_some] at e2
        have v1 : VV (wdOf X) Hs2 σ va v := by
          cases va with
          | fr d => cases hd
          | fz d => exact Rp.mono st2.ex _ _ rv
          | bor i => exact rv
        have hx := st12.rep.deref v1 hd
        unfold revD at e2
        split at e2
        · cases e2
          obtain ⟨a, ys, rfl, h1, h2⟩ := hx.lst st12.rep.ex
          refine ⟨rfl, a, ys, rfl, SqL.of h1, fun l hl => fin.op st12 (Grow.new st12.rep.ex hl) ⟨l, rfl, hl, xBack st12.rep.ex hl, _, upd_same, h2.reverse⟩⟩
        · cases e2
    · cases e2
end
section
variable {X : Cx} {C : Wd} {W : WX} {e o : Expr} {p q : M Val} {pa : M (List Val)} {pos p0 kpos apos : Pos} {k n : Nat} {f Ca : Addr} {fd : FuncData} {ps : List Str} {sp : Sp} {E : L2.St → XK} {m c kn : Str} {t : TA} {ta : TE} {F : M Val} {kws : List Keyword}
def BindsM (K : PySem.W.Frag) (fd : FuncData) (ps : List Str) (kn : Str) : Prop := ∀ (s : Shared) (v w : Value), K.In s.heap → BindsTo s fd ⟨[v], [(kn, w)]⟩ (ps.zip [v, w])
theorem run_M1 {pins : List (Addr × Obj)} {σ : L2.St} {H : Hp} {s : Shared} {Q : VK} {v0 : Value} {x : V} {ws : List Value} {zs : List V} (G : FnOk X.prog X.w X.K X.mg X.base (L2.CX X.prog X.w) k f fd ps sp) (room : Room k X.A) (bi : BindsM X.K fd ps kn) (out : PassesAt (L2.CX X.prog X.w) X σ (E σ)) (inv : Inv X pins σ H s) (r0 : RelV x v0) (rel : Vals zs ws) (hl : zs.length = 1)
    (want : sp (x :: zs) H Q (E σ)) : wpAny (model X.prog X.w) X.A (call (.ref f) ([v0] ++ []) ([kn].zip ws)) (EP X pins σ Q) X.xe s := by
  match zs, ws, rel, hl with
  | [z], [w], rel, _ =>
    refine wpAny_call (codeAny_mono (G.run X.A X.stack s H _ _ _ Q (E σ) room inv.env0 (bi s v0 w inv.kIn) (.cons r0 rel) want) fun r s' end_ => ?_)
    match r, end_ with
    | .error er, end_ => exact out pins H s er s' inv end_
    | .ok (.ret u), end_ => exact inv.after end_
    | .ok .next, end_ => exact end_.elim
    | .ok .brk, end_ => exact end_.elim
    | .ok .cont, end_ => exact end_.elim
def tMethN (Ca : Addr) (m : Str) (sp : Sp) (E : L2.St → XK) (ta : TE) (t : TA) : TE := fun σ H Q => ta σ H fun x H1 => ∃ a dx fs, x = .ref a ∧ H1 a = some (.ins Ca dx fs) ∧ fs.lookup m = none ∧ t σ H1 fun vs H2 => vs.length = 1 ∧ sp (x :: vs) H2 Q (E σ)
theorem pe_mthN {pl : Sem Bool} (ho : PE X o ta) (cl : Cls X.K Ca) (hm : Meth X.K Ca m f) (G : FnOk X.prog X.w X.K X.mg X.base (L2.CX X.prog X.w) k f fd ps sp) (room : Room k X.A) (bi : BindsM X.K fd ps kn) (out : ∀ σ, PassesAt (L2.CX X.prog X.w) X σ (E σ)) (names : PK X kws t)
    (hall : (backToKw pos (keywordEach kws X.env)).all (·.1.isSome) = true) (hks : (backToKw pos (keywordEach kws X.env)).filterMap (·.1) = [kn]) (hpl : ((backTo pos (starEach [] X.env)).any (·.1) || (backToKw pos (keywordEach kws X.env)).any (·.1.isNone)) = false)
    (tree : eval (.Call (.Attribute o m apos) [] kws pos) X.env = (do
      let ov ← eval o X.env
      standAt apos.atName
      let (g, first) ← holding [ov] (getMethod ov m pl)
      callWith pos g first (backTo pos (starEach [] X.env)) (backToKw pos (keywordEach kws X.env)))) :
    PE X (.Call (.Attribute o m apos) [] kws pos) (tMethN Ca m sp E ta t) :=
  ⟨fun pins s σ H Q inv want => PySem.W.methodCall_KW (pl := pl) (thn (ho.run pins s σ H _ inv want) fun u s1 ⟨x, H1, inv1, rx, a, dx, fs, ex, ea, l, q⟩ => by
    subst ex
    cases (show u = Value.ref a from rx)
    exact getmeth_ok inv1 ea cl hm l (PySem.W.callWith_KW0 (first := [.ref a]) (h₀ := X.base) inv.ok.mod.kin hm.kp hall (thn (names.run pos pins s1 σ H1 _ inv1 q) fun ws s2 ⟨zs, H2, inv2, r, hl, q2⟩ => ⟨inv2.kIn, by
      rw [hks]
      exact run_M1 (v0 := .ref a) (x := .ref a) G room bi (out σ) inv2 rfl r hl q2⟩) hpl)) tree⟩
theorem methN_read {σ : L2.St} {H : Hp} {Q : VK} (hc : C.mg c = some (.ref Ca)) (h : Tm C W (RVx C) (xMeth c m n F p (aCons q aNil)) σ H Q) : tMethN Ca m (spF C n F) (WE W) (tX C W p) (tA C W (aCons q aNil)) σ H Q := by
  obtain ⟨env, Hs, r1, rp, e, fin⟩ := tCall_read h
  refine Tm.bindAt rp e fin fun va env1 v H1 Hs1 hp st rv e1 => ?_
  have go : ∀ {va : Val}, VV C Hs1 σ va v → (if isIns c m env1 va = true then ((aCons q aNil).bind fun l => M.pure (va :: l)) env1 else none) = some r1 → (∀ {H2 Hs2 : Hp} {env2 : SE}, Stp C Hs1 H1 σ env1 Hs2 H2 σ env2 → VV C Hs2 σ va v) →
      ∃ a dx fs, v = .ref a ∧ H1 a = some (.ins Ca dx fs) ∧ fs.lookup m = none ∧ tA C W (aCons q aNil) σ H1 fun vs H2 => vs.length = 1 ∧ spF C n F (v :: vs) H2 Q (WE W σ) := fun {va} hv e1 later => by
    split at e1
    case isFalse => cases e1
    rename_i hi
    obtain ⟨a, dx, fs, h1, h2, h3⟩ := isIns_at st.rep hc hv hi
    refine ⟨a, dx, fs, h1, h2, h3, ?_⟩
    refine Tm.bindAt st.rep e1 (laterA st fin) fun vs env2 us H2 Hs2 hq st2 rv2 e2 => ?_
    have hl : vs.length = 1 := by
      unfold aCons M.bind at hq
      split at hq
      · rename_i x e3 _
        cases x with
        | fr d => cases hq
        | fz d =>
          cases hq
          rfl
        | bor i =>
          cases hq
          rfl
      · cases hq
      · cases hq
    cases e2
    exact ⟨by rw [rv2.length]; exact hl, fin _ H2 Hs2 (st.trans st2) ⟨_, _, rfl, later st2, rv2⟩⟩
  cases va with
  | fr d => cases e1
  | fz d => exact go (va := .fz d) rv e1 fun s => Rp.mono s.ex _ _ rv
  | bor i => exact go (va := .bor i) rv e1 fun _ => rv
theorem x_methN {pl : Sem Bool} (hc : X.mg c = some (.ref Ca)) (cl : Cls X.K Ca) (hm : Meth X.K Ca m f) (G : FnOk X.prog X.w X.K X.mg X.base (L2.CX X.prog X.w) k f fd ps (spF (wdOf X) n F)) (hr : Room k X.A) (hb : BindsM X.K fd ps kn) (tk : Takes X W) (ho : PE X o (tX (wdOf X) W p)) (names : PK X kws (tA (wdOf X) W (aCons q aNil)))
    (hall : (backToKw pos (keywordEach kws X.env)).all (·.1.isSome) = true := by rfl) (hks : (backToKw pos (keywordEach kws X.env)).filterMap (·.1) = [kn] := by rfl) (hpl : ((backTo pos (starEach [] X.env)).any (·.1) || (backToKw pos (keywordEach kws X.env)).any (·.1.isNone)) = false := by rfl)
    (ht : eval (.Call (.Attribute o m apos) [] kws pos) X.env = (do
      let ov ← eval o X.env
      standAt apos.atName
      let (g, first) ← holding [ov] (getMethod ov m pl)
      callWith pos g first (backTo pos (starEach [] X.env)) (backToKw pos (keywordEach kws X.env))) := by rfl) :
    PE X (.Call (.Attribute o m apos) [] kws pos) (tX (wdOf X) W (xMeth c m n F p (aCons q aNil))) :=
  pe_weak (pe_mthN ho cl hm G hr hb (fun σ => passAt tk σ) names hall hks hpl ht) fun _ _ _ h => methN_read hc h
end
end VE
namespace VE
open PySem PySem.Spec PyProof.Rows L2
structure HL (C : Wd) (Hs0 H0 : Hp) (σ0 : L2.St) (env0 : SE) (Hs H : Hp) (σ : L2.St) (env : SE) (ds : List D) (vs : List V) : Prop where
  tr : TrL C Hs H ds vs
  out : ∀ x ∈ ftL H ds vs, Hs x = none ∧ ¬ Own H σ env x ∧ Nw Hs0 H0 σ0 env0 x
  nd : (ftL H ds vs).Nodup
section
variable {C : Wd} {Hs0 H0 Hs H Hs2 H2 : Hp} {σ0 σ σ2 : L2.St} {env0 env env2 : SE} {ds : List D} {vs : List V}
theorem HL.nil : HL C Hs0 H0 σ0 env0 Hs H σ env [] [] := ⟨by simp only [TrL], fun x hx => (by simp only [ftL] at hx; cases hx), by simp only [ftL]; exact List.nodup_nil⟩
theorem HL.keep (h : HL C Hs0 H0 σ0 env0 Hs H σ env ds vs) (e : Ex Hs Hs2) (k : ∀ x ∈ ftL H ds vs, H2 x = H x ∧ Hs2 x = none ∧ ¬ Own H2 σ2 env2 x) : HL C Hs0 H0 σ0 env0 Hs2 H2 σ2 env2 ds vs ∧ ftL H2 ds vs = ftL H ds vs := by
  obtain ⟨q1, q2⟩ := TrL.mono e ds vs h.tr fun x hx => (k x hx).1
  exact ⟨⟨q1, fun x hx => by rw [q2] at hx; exact ⟨(k x hx).2.1, (k x hx).2.2, (h.out x hx).2.2⟩, by rw [q2]; exact h.nd⟩, q2⟩
theorem HL.step (h : HL C Hs0 H0 σ0 env0 Hs H σ env ds vs) (s : Stp C Hs H σ env Hs2 H2 σ2 env2) : HL C Hs0 H0 σ0 env0 Hs2 H2 σ2 env2 ds vs ∧ ftL H2 ds vs = ftL H ds vs :=
  h.keep s.ex fun x hx => by
    obtain ⟨o, ho⟩ := TrL.there ds vs h.tr x hx
    obtain ⟨h1, h2, h3⟩ := h.out x hx
    obtain ⟨k1, k2, k3⟩ := s.fr x o ho h1 h2
    exact ⟨k1.trans ho.symm, k2, k3⟩
theorem HL.head {d : D} {v : V} (h : HL C Hs0 H0 σ0 env0 Hs H σ env (.box d :: ds) (v :: vs)) : RV C Hs0 H0 σ0 env0 Hs H σ env (.fr d) v := by
  have t := h.tr
  simp only [TrL] at t
  obtain ⟨w, r, e, h1, h2⟩ := t
  cases e
  simp only [TrV] at h1
  obtain ⟨a, rfl, ha⟩ := h1
  have e : ftL H (.box d :: ds) (.ref a :: vs) = ft H d a ++ ftL H ds vs := by simp only [ftL, ftV]
  have o := h.out
  have n := h.nd
  rw [e] at o n
  exact ⟨a, rfl, ⟨ha, fun x hx => (o x (List.mem_append_left _ hx)).1, (List.nodup_append.mp n).1⟩, fun x hx => (o x (List.mem_append_left _ hx)).2⟩
theorem HL.tail {d : D} {v : V} (h : HL C Hs0 H0 σ0 env0 Hs H σ env (d :: ds) (v :: vs)) : HL C Hs0 H0 σ0 env0 Hs H σ env ds vs := by
  have t := h.tr
  simp only [TrL] at t
  obtain ⟨w, r, e, h1, h2⟩ := t
  cases e
  have e : ftL H (d :: ds) (v :: vs) = ftV H d v ++ ftL H ds vs := by simp only [ftL]
  have o := h.out
  have n := h.nd
  rw [e] at o n
  exact ⟨h2, fun x hx => o x (List.mem_append_right _ hx), (List.nodup_append.mp n).2.1⟩
theorem HL.stowed {i : Nat} {d : D} {v : V} (h : HL C Hs0 H0 σ0 env0 Hs H σ env (.box d :: ds) (v :: vs)) (r : env.length = σ.length) (hs : stow i (.fr d) env = some env2) : HL C Hs0 H0 σ0 env0 Hs H (σ.set i (some v)) env2 ds vs := by
  have t := h.tail
  obtain ⟨a, rfl, ha, _⟩ := h.head
  have e : ftL H (.box d :: ds) (.ref a :: vs) = ft H d a ++ ftL H ds vs := by simp only [ftL, ftV]
  have n := h.nd
  rw [e] at n
  refine ⟨t.tr, fun x hx => ⟨(t.out x hx).1, fun ⟨j, b, c, e1, e2, e3, e4⟩ => ?_, (t.out x hx).2.2⟩, t.nd⟩
  unfold stow at hs
  split at hs
  · rename_i hi
    have hσ : i < σ.length := by rw [← r]; exact hi
    split at hs
    · cases hs
    · cases hs
      rcases set_at e1 with ⟨z, w, _⟩ | ⟨z, w⟩
      · subst z
        cases w
        rw [List.getElem?_set_self hσ] at e3
        cases e3
        exact (List.nodup_append.mp n).2.2 x e4 x hx rfl
      · rw [List.getElem?_set_ne (Ne.symm z)] at e3
        exact (t.out x hx).2.1 ⟨j, b, c, w, e2, e3, e4⟩
  · cases hs
end
section
variable {X : Cx} {W : WX} {b c : Expr} {q r : M Val} {pos : Pos} {body : List Stmt} {B : SP}
def forO3 (i : Nat) (B : SP) : List D → SE → Option SOut
  | [], env => some (.nx env)
  | d :: ds, env => (stow i (.fr d) env).bind fun e1 => match B e1 with
    | some (.nx e2) => forO3 i B ds e2
    | some (.ct e2) => forO3 i B ds e2
    | some (.bk e2) => some (.nx e2)
    | r => r
def sForN3 (j i : Nat) (q r : M Val) (B : SP) : SP := fun env0 => match env0[j]? with
  | some (some (.own _)) => (sWith q fun vb => sWith r fun vc env => match vb, vc with
    | .fr d2, .fr d3 => (match env[j]? with
      | some (some (.own d1)) => forO3 i B [d1, d2, d3] (env.set j none)
      | _ => none)
    | _, _ => none) env0
  | _ => none
theorem s_forN3 {j i : Nat} {x y : Str} {px py pt : Pos} {kt} (hp : PassesOwn (model X.prog X.w) X.A X.env X.xe) (hc : X.calm = true) (gx : PG X (.Name x px) (gName i)) (hy : PE X (.Name y py) (tVar j)) (hb : PE X b (tX (wdOf X) W q)) (hcc : PE X c (tX (wdOf X) W r)) (hB : PSs X body (tS (wdOf X) W B))
    (s1 : starEach (.Name y py :: [b, c]) X.env = (false, eval (.Name y py) X.env) :: starEach [b, c] X.env := by rfl) (s2 : starEach (b :: [c]) X.env = (false, eval b X.env) :: starEach [c] X.env := by rfl) (s3 : starEach (c :: []) X.env = (false, eval c X.env) :: starEach [] X.env := by rfl)
    (hs : ∀ x, foldedSetIterable (.Tuple [.Name y py, b, c] kt pt) X.env x = pure x := by intro _; rfl) :
    PS X (.For (.Name x px) (.Tuple [.Name y py, b, c] kt pt) body [] pos) (tS (wdOf X) W (sForN3 j i q r B)) :=
  ps_weak (ps_for hp hc (pi_tup (pe_tup (pa_cons hy (pa_cons hb (pa_cons hcc pa_nil s3) s2) s1))) gx hB hs) fun D σ H ⟨env, Hs, r1, rp, e, fin⟩ => by
    unfold sForN3 at e
    split at e
    case h_2 => cases e
    rename_i d0 h0
    obtain ⟨a, ea, _⟩ := rp.held h0 rfl
    refine ⟨.ref a, ea, ?_⟩
    refine Tm.with rp e fin fun va env1 u H1 Hs1 hp1 st rv e1 => ?_
    refine Tm.with st.rep e1 (fin.later st) fun vb env2 w H2 Hs2 hp2 st2 rw2 e2 => ?_
    cases va with
    | fz _ => cases e2
    | bor _ => cases e2
    | fr d2 =>
    cases vb with
    | fz _ => cases e2
    | bor _ => cases e2
    | fr d3 =>
    have e2 : (match env2[j]? with
      | some (some (.own d1)) => forO3 i B [d1, d2, d3] (env2.set j none)
      | _ => none) = some r1 := e2
    split at e2
    case h_2 => cases e2
    rename_i d1 h1
    have st12 := st.trans st2
    obtain ⟨a', ea', hd1⟩ := st12.rep.held h1 rfl
    rw [ea] at ea'; cases ea'
    have ru := RV.carry st2 (fun k z => by cases z) rv
    obtain ⟨a2, rfl, hd2, w2⟩ := ru
    obtain ⟨a3, rfl, hd3, w3⟩ := rw2.later st
    have ap : ∀ z, z ∈ ft H2 d2 a2 → z ∉ ft H2 d3 a3 := RV.apart st2 rv rw2
    have own1 : ∀ x ∈ ft H2 d1 a, Own H2 σ env2 x := fun x hx => ⟨j, _, a, h1, rfl, ea, hx⟩
    have st3 := st12.trans (Stp.forget st12.rep j)
    have sub : ∀ x, Own H2 σ (env2.set j none) x → Own H2 σ env2 x ∧ x ∉ ft H2 d1 a := fun x ⟨k, bk, ck, f1, f2, f3, f4⟩ => by
      rcases set_at f1 with ⟨_, q, _⟩ | ⟨z, q⟩
      · cases q
      · exact ⟨⟨k, bk, ck, q, f2, f3, f4⟩, fun hx => z (st12.rep.sep k j bk _ ck a x q h1 f2 rfl f3 ea f4 hx)⟩
    have eft : ftL H2 [.box d1, .box d2, .box d3] [.ref a, .ref a2, .ref a3] = ft H2 d1 a ++ (ft H2 d2 a2 ++ (ft H2 d3 a3 ++ [])) := by simp only [ftL, ftV]
    have hl : HL (wdOf X) Hs H σ env Hs2 H2 σ (env2.set j none) [.box d1, .box d2, .box d3] [.ref a, .ref a2, .ref a3] := by
      refine ⟨?_, fun x hx => ?_, ?_⟩
      · simp only [TrL, TrV]
        exact ⟨_, _, rfl, ⟨a, rfl, hd1.tr⟩, _, _, rfl, ⟨a2, rfl, hd2.tr⟩, _, _, rfl, ⟨a3, rfl, hd3.tr⟩, rfl⟩
      · rw [eft, List.append_nil] at hx
        rcases List.mem_append.mp hx with hx | hx
        · refine ⟨hd1.out x hx, fun z => (sub x z).2 hx, fun o k1 k2 => ?_⟩
          by_cases z : Own H σ env x
          · exact z
          · exact absurd (own1 x hx) (st12.fr x o k1 k2 z).2.2
        · rcases List.mem_append.mp hx with hx | hx
          · exact ⟨hd2.out x hx, fun z => (w2 x hx).1 (sub x z).1, (w2 x hx).2⟩
          · exact ⟨hd3.out x hx, fun z => (w3 x hx).1 (sub x z).1, (w3 x hx).2⟩
      · rw [eft, List.append_nil, List.nodup_append]
        refine ⟨hd1.nd, ?_, fun x hx y hy z => ?_⟩
        · rw [List.nodup_append]
          exact ⟨hd2.nd, hd3.nd, fun x hx y hy z => ap x hx (z ▸ hy)⟩
        · subst z
          rcases List.mem_append.mp hy with hy | hy
          · exact (w2 x hy).1 (own1 x hx)
          · exact (w3 x hy).1 (own1 x hx)
    refine ⟨by show 3 ≤ sizeLine; decide, fun t ht => ?_⟩
    have g := Grow.newF (o := HO.tup [.ref a, .ref a2, .ref a3]) st3.rep.ex ht
    have sg := Stp.grow st3.rep g
    have hl2 := (hl.step sg).1
    have s0 := st3.trans sg
    refine ⟨t, rfl, ⟨_, SqT.of upd_same⟩, ?_⟩
    refine ⟨fun k m σ' H' => m = 3 - k ∧ k ≤ 3 ∧ ∃ Hs' env', Stp (wdOf X) Hs H σ env Hs' H' σ' env' ∧ Hs' t = some (.tup [.ref a, .ref a2, .ref a3]) ∧
        HL (wdOf X) Hs H σ env Hs' H' σ' env' (([d1, d2, d3].drop k).map .box) ([V.ref a, .ref a2, .ref a3].drop k) ∧ forO3 i B ([d1, d2, d3].drop k) env' = some r1,
      ⟨3, rfl, Nat.zero_le _, _, _, s0, upd_same, hl2, e2⟩, ?_⟩
    rintro k m σ' H' ⟨rfl, hk, Hs', env', s', ht', hl', e'⟩
    by_cases hlt : k < 3
    · refine .inr ⟨⟨_, [V.ref a, .ref a2, .ref a3][k]'hlt, SqT.of (s'.rep.ex _ _ ht'), List.getElem?_eq_getElem hlt⟩, _, fun σ2 H2 n2 => ⟨3 - (k + 1), by omega, n2⟩, fun x H5 y => ?_⟩
      obtain ⟨rfl, y⟩ := y
      have hx := y _ (SqT.of (s'.rep.ex _ _ ht'))
      rw [List.getElem?_eq_getElem hlt] at hx
      cases hx
      have hdD : [d1, d2, d3].drop k = [d1, d2, d3][k]'hlt :: [d1, d2, d3].drop (k + 1) := List.drop_eq_getElem_cons hlt
      have hdV : [V.ref a, .ref a2, .ref a3].drop k = [V.ref a, .ref a2, .ref a3][k]'hlt :: [V.ref a, .ref a2, .ref a3].drop (k + 1) := List.drop_eq_getElem_cons hlt
      rw [hdD, hdV, List.map_cons] at hl'
      rw [hdD] at e'
      generalize [d1, d2, d3][k]'hlt = d at hl' e'
      generalize [V.ref a, .ref a2, .ref a3][k]'hlt = v at hl'
      unfold forO3 at e'
      obtain ⟨e3, hst, e'⟩ := Option.bind_eq_some_iff.mp e'
      have sA := s'.stow hst hl'.head
      have hl3 := hl'.stowed s'.rep.len hst
      cases hB' : B e3 with
      | none => rw [hB'] at e'; cases e'
      | some ro =>
        rw [hB'] at e'
        refine ⟨e3, Hs', ro, sA.rep, hB', ?_⟩
        cases ro with
        | nx e4 => exact fun σ6 H6 Hs6 s6 => ⟨rfl, hlt, Hs6, e4, sA.trans s6, s6.ex _ _ ht', (hl3.step s6).1, e'⟩
        | ct e4 => exact fun σ6 H6 Hs6 s6 => ⟨rfl, hlt, Hs6, e4, sA.trans s6, s6.ex _ _ ht', (hl3.step s6).1, e'⟩
        | bk e4 => cases e'; exact fun σ6 H6 Hs6 s6 => fin σ6 H6 Hs6 (sA.trans s6)
        | rt v e4 => cases e'; exact fun x σ6 H6 Hs6 s6 rv6 => fin x σ6 H6 Hs6 (sA.trans s6) (rv6.later sA)
        | exc c d e4 => cases e'; exact fun cls od σ6 H6 Hs6 s6 x => fin cls od σ6 H6 Hs6 (sA.trans s6) x
    · have hk3 : k = 3 := by omega
      subst hk3
      cases e'
      exact .inl ⟨⟨_, SqT.of (s'.rep.ex _ _ ht'), Nat.le_refl _⟩, fin σ' H' Hs' s'⟩
end
section
variable {X : Cx} {W : WX} {tg : Expr} {body : List Stmt} {B : SP} {st : Stmt} {t : TgD} {ids : List Nat} {pos : Pos}
theorem ps_or {t1 t2 : TS} (h1 : PS X st t1) (h2 : PS X st t2) : PS X st (fun D σ H => t1 D σ H ∨ t2 D σ H) :=
  ⟨fun pins s σ H D I h => h.elim (fun h => h1.run pins s σ H D I h) fun h => h2.run pins s σ H D I h⟩
def isIo : Option (Option Bnd) → Bool
  | some (some (.io _)) => true
  | _ => false
noncomputable def sForB (i : Nat) (t : TgD) (b : SP) : SP := fun env => if isIo env[i]? = true then sForO false i t b env else sFor (itD (xf i)) t b env
theorem s_forB {i : Nat} {iter : Expr} (hp : PassesOwn (model X.prog X.w) X.A X.env X.xe) (hc : X.calm = true) (hi : PI X tg iter (tI (wdOf X) W (itD (xf i)))) (hi' : PI X tg iter (tIO (wdOf X) false i)) (hg : PG X tg (tG (wdOf X) ids t)) (hb : PSs X body (tS (wdOf X) W B)) (hs : ∀ x, foldedSetIterable iter X.env x = pure x := by intro _; rfl) :
    PS X (.For tg iter body [] pos) (tS (wdOf X) W (sForB i t B)) :=
  ps_weak (ps_or (s_for hp hc hi hg hb hs) (s_forO hp hc hi' hg hb hs)) fun D σ H ⟨env, Hs, r1, rp, e, fin⟩ => by
    unfold sForB at e
    split at e
    · exact .inr ⟨env, Hs, r1, rp, e, fin⟩
    · exact .inl ⟨env, Hs, r1, rp, e, fin⟩
end
section
variable {X : Cx}
def rIsB : R2 := fun x y H Q => ∃ a b, x = .bl a ∧ y = .bl b ∧ Q (.bl (decide (a = b))) H
theorem op_isB : OpR X (compareOp .Is) rIsB := by
  intro pins s σ H x y v u Q I rx ry h
  obtain ⟨a, b, rfl, rfl, q⟩ := h
  cases rx
  cases ry
  have e : (Value.bool a == Value.bool b) = decide (a = b) := by cases a <;> cases b <;> rfl
  show wpAny _ _ ((isSame (Value.bool a) (Value.bool b)) >>= fun z => pure (Value.bool z)) _ _ s
  refine wpAny_bind (wpAny_isSame_plain rfl (wpAny_pure ?_))
  rw [e]
  exact fin_bl I q rfl
def isBD (d e : D) : Option Val := match d, e with
  | .bl a, .bl b => some (.fz (.bl (decide (a = b))))
  | _, _ => none
theorem opT_isB {C : Wd} : OpT C rIsB isBD := by
  intro Hs H x y dx dy val Q ex hx hy g k
  unfold isBD at g
  split at g
  · cases g
    obtain rfl := hx.bl
    obtain rfl := hy.bl
    exact ⟨_, _, rfl, rfl, atom_end ex k rpB⟩
  · cases g
end
end VE
namespace VE
open PySem PySem.Spec PyProof.Rows L2
abbrev PX := Str → D → SE → Prop
def NX : PX := fun _ _ _ => False
structure Opq {α : Type} (a : α) : Type where mk ::
def TkU {α : Type} (p : M α) (e : SE) (Q : α → SE → Prop) (X : PX) (_ : Opq (p, Q, X) := .mk) : Prop := match p e with
  | some (.ok a e') => Q a e'
  | some (.exc c d e') => X c d e'
  | none => False
def TsU (p : SP) (e : SE) (Q : SOut → Prop) (_ : Opq (p, Q) := .mk) : Prop := match p e with
  | some r => Q r
  | none => False
def FrU (t : TgD) (b : SP) (ds : List D) (e : SE) (Q : SOut → Prop) (_ : Opq (t, b, Q) := .mk) : Prop := TsU (forRun t b ds) e Q
def WhU (c : M Bool) (b : SP) (n : Nat) (e : SE) (Q : SOut → Prop) (_ : Opq (c, b, n, Q) := .mk) : Prop := TsU (whRun c b n) e Q
def Bif (b : Bool) (P R : Prop) (_ : Opq (P, R) := .mk) : Prop := if b = true then P else R
def So {α : Type} (o : Option α) (k : α → Prop) (_ : Opq k := .mk) : Prop := match o with
  | some a => k a
  | none => False
theorem TkU_ext {α : Type} {p : M α} {e : SE} {Q Q' : α → SE → Prop} {X : PX} (h : ∀ a e, Q a e = Q' a e) : TkU p e Q X = TkU p e Q' X := by
  have : Q = Q' := by funext a e; exact h a e
  rw [this]
theorem So_ext {α : Type} {o : Option α} {k k' : α → Prop} (h : ∀ a, k a = k' a) : So o k = So o k' := by
  have : k = k' := by funext a; exact h a
  rw [this]
theorem keep {p q : Prop} (h : p = q) : p = q := h
theorem Bif_t {P R : Prop} : Bif true P R = P := keep rfl
theorem Bif_f {P R : Prop} : Bif false P R = R := by simp [Bif]
theorem Bif.mk {b : Bool} {P R : Prop} (h : b = true → P) (h' : b = false → R) : Bif b P R := by
  cases b
  · exact Bif_f.symm ▸ h' rfl
  · exact h rfl
theorem Bif.mkd {p : Prop} [Decidable p] {P R : Prop} (h : p → P) (h' : ¬p → R) : Bif (decide p) P R := Bif.mk (fun q => h (of_decide_eq_true q)) fun q => h' (of_decide_eq_false q)
theorem So_some {α : Type} {a : α} {k : α → Prop} : So (some a) k = k a := keep rfl
theorem So_none {α : Type} {k : α → Prop} : So (none : Option α) k = False := keep rfl
theorem So_map {α β : Type} {o : Option α} {f : α → β} {k : β → Prop} : So (o.map f) k = So o fun a => k (f a) := by cases o <;> rfl
theorem So_bind {α β : Type} {o : Option α} {f : α → Option β} {k : β → Prop} : So (o.bind f) k = So o fun a => So (f a) k := by cases o <;> rfl
theorem So_ite {α : Type} {c : Prop} [Decidable c] {a : α} {k : α → Prop} : So (if c then some a else none) k = (c ∧ k a) := by by_cases h : c <;> simp [h, So]
theorem So_ite' {α : Type} {c : Prop} [Decidable c] {a : α} {k : α → Prop} : So (if c then none else some a) k = (¬c ∧ k a) := by by_cases h : c <;> simp [h, So]
theorem TkU.mono {α : Type} {p : M α} {e : SE} {Q Q' : α → SE → Prop} {X X' : PX} (h : TkU p e Q X) (k : ∀ a e', Q a e' → Q' a e') (kx : ∀ c d e', X c d e' → X' c d e') : TkU p e Q' X' := by
  unfold TkU at h ⊢
  split at h
  · exact k _ _ h
  · exact kx _ _ _ h
  · exact h
theorem TkU.mono' {α : Type} {p : M α} {e : SE} {Q Q' : α → SE → Prop} {X' : PX} (h : TkU p e Q NX) (k : ∀ a e', Q a e' → Q' a e') : TkU p e Q' X' := h.mono k fun _ _ _ x => x.elim
theorem TsU.mono {p : SP} {e : SE} {Q Q' : SOut → Prop} (h : TsU p e Q) (k : ∀ r, Q r → Q' r) : TsU p e Q' := by
  unfold TsU at h ⊢
  split at h
  · exact k _ h
  · exact h
theorem TkU.ok {α : Type} {p : M α} {e : SE} {Q : α → SE → Prop} (h : TkU p e Q NX) : ∃ a e', p e = some (.ok a e') ∧ Q a e' := by
  unfold TkU at h
  split at h
  · exact ⟨_, _, by assumption, h⟩
  · exact h.elim
  · exact h.elim
theorem TkU.of {α : Type} {p : M α} {e e' : SE} {a : α} {Q : α → SE → Prop} {X : PX} (h : p e = some (.ok a e')) (q : Q a e') : TkU p e Q X := by unfold TkU; rw [h]; exact q
section
variable {α β : Type} {e : SE} {X : PX} {Q : Val → SE → Prop} {QB : Bool → SE → Prop} {QL : List Val → SE → Prop} {QD : List D → SE → Prop} {QS : SOut → Prop} {p q r : M Val} {pa : M (List Val)}
theorem TkU_bind {p : M α} {f : α → M β} {Q : β → SE → Prop} : TkU (p.bind f) e Q X = TkU p e (fun a e1 => TkU (f a) e1 Q X) X := by
  unfold TkU M.bind
  split <;> rename_i h <;> split at h <;> simp_all
theorem TkU_pure {a : α} {Q : α → SE → Prop} : TkU (M.pure a) e Q X = Q a e := rfl
theorem TkU_none {Q : α → SE → Prop} : TkU (fun _ => none : M α) e Q X = False := rfl
theorem TkU_obind {A : SE → Option β} {B : β → M α} {Q : α → SE → Prop} : TkU (fun env => (A env).bind fun d => B d env) e Q X = So (A e) fun d => TkU (B d) e Q X := by
  have : ∀ o : Option β, (match o.bind fun d => B d e with
    | some (.ok a e') => Q a e'
    | some (.exc c d e') => X c d e'
    | none => False) = So o fun d => TkU (B d) e Q X := fun o => by cases o <;> rfl
  exact this _
theorem TkU_omap {A : SE → Option α} {Q : α → SE → Prop} : TkU (fun env => (A env).map fun v => .ok v env) e Q X = So (A e) fun v => Q v e := by
  have : ∀ o : Option α, (match o.map fun v => Out.ok v e with
    | some (.ok a e') => Q a e'
    | some (.exc c d e') => X c d e'
    | none => False) = So o fun v => Q v e := fun o => by cases o <;> rfl
  exact this _
theorem TkU_oif {c : SE → Prop} [DecidablePred c] {A : M α} {Q : α → SE → Prop} : TkU (fun env => if c env then A env else none) e Q X = (c e ∧ TkU A e Q X) := by
  by_cases h : c e
  · have : (c e ∧ TkU A e Q X) = TkU A e Q X := by simp [h]
    rw [this]
    unfold TkU; simp only [h, if_true]
  · unfold TkU; simp [h]
theorem TsU_obind {A : SE → Option β} {B : β → SP} {Q : SOut → Prop} : TsU (fun env => (A env).bind fun d => B d env) e Q = So (A e) fun d => TsU (B d) e Q := by
  have : ∀ o : Option β, (match o.bind fun d => B d e with
    | some r => Q r
    | none => False) = So o fun d => TsU (B d) e Q := fun o => by cases o <;> rfl
  exact this _
theorem TsU_omap {A : SE → Option SE} {Q : SOut → Prop} : TsU (fun env => (A env).map .nx) e Q = So (A e) fun e2 => Q (.nx e2) := by
  have : ∀ o : Option SE, (match o.map SOut.nx with
    | some r => Q r
    | none => False) = So o fun e2 => Q (.nx e2) := fun o => by cases o <;> rfl
  exact this _
theorem TkU_opt {o : Option (Out α)} {Q : α → SE → Prop} : TkU (fun _ => o : M α) e Q X = So o fun r => TkU (fun _ => some r : M α) e Q X := by cases o <;> rfl
theorem TkU_xc {d : D} : TkU (xc d) e Q X = Q (.fz d) e := rfl
def rdv (i : Nat) : Bnd → Val
  | .fz d => .fz d
  | _ => .bor i
theorem TkU_xv {i : Nat} : TkU (xv i) e Q X = So (e[i]?.bind id) fun b => Q (rdv i b) e := by
  unfold TkU xv So
  cases e[i]? with
  | none => rfl
  | some o => cases o with
    | none => rfl
    | some b => cases b <;> rfl
def xfk (i : Nat) (e : SE) (Q : Val → SE → Prop) : Bnd → Prop
  | .fz d => Q (.fz d) e
  | .own d => Q (.fz (open_ d)) (e.set i (some (.fz (open_ d))))
  | .io _ => False
theorem TkU_xf {i : Nat} : TkU (xf i) e Q X = So (e[i]?.bind id) fun b => xfk i e Q b := by
  unfold TkU xf So
  cases e[i]? with
  | none => rfl
  | some o => cases o with
    | none => rfl
    | some b => cases b <;> rfl
def xmk (i : Nat) (e : SE) (Q : Val → SE → Prop) : Bnd → Prop
  | .fz d => Q (.fz d) e
  | .own d => Q (.fr d) (e.set i none)
  | .io _ => False
theorem TkU_xm {i : Nat} : TkU (xm i) e Q X = So (e[i]?.bind id) fun b => xmk i e Q b := by
  unfold TkU xm So
  cases e[i]? with
  | none => rfl
  | some o => cases o with
    | none => rfl
    | some b => cases b <;> rfl
def frv : Val → Val
  | .fr d => .fz (open_ d)
  | v => v
theorem TkU_frz : TkU (frz p) e Q X = TkU p e (fun v e1 => Q (frv v) e1) X := by
  unfold frz; rw [TkU_bind]; refine TkU_ext fun v e1 => ?_; cases v <;> rfl
theorem TkU_x2 {g : D → D → Option Val} : TkU (x2 g p q) e Q X = TkU p e (fun a e1 => TkU q e1 (fun b e2 => So (deref e2 a) fun da => So (deref e2 b) fun db => So (g da db) fun v => Q v e2) X) X := by
  unfold x2; rw [TkU_bind]; refine TkU_ext fun a e1 => ?_; rw [TkU_bind]; refine TkU_ext fun b e2 => ?_
  refine TkU_obind.trans (So_ext fun da => ?_)
  refine TkU_obind.trans (So_ext fun db => ?_)
  exact TkU_omap (A := fun _ => g da db)
theorem TkU_x1 {g : D → Option Val} : TkU (x1 g p) e Q X = TkU p e (fun a e1 => So (deref e1 a) fun da => So (g da) fun v => Q v e1) X := by
  unfold x1; rw [TkU_bind]; refine TkU_ext fun a e1 => ?_
  refine TkU_obind.trans (So_ext fun da => ?_)
  exact TkU_omap (A := fun _ => g da)
def bov : Val → Option Bool
  | .fz (.bl b) => some b
  | _ => none
theorem TkU_bt : TkU (bt p) e QB X = TkU p e (fun v e1 => So (bov v) fun b => QB b e1) X := by
  unfold bt; rw [TkU_bind]; refine TkU_ext fun v e1 => ?_
  cases v with
  | fz d => cases d <;> rfl
  | _ => rfl
theorem TkU_bAnd {p q : M Bool} : TkU (bAnd p q) e QB X = TkU p e (fun b e1 => Bif b (TkU q e1 QB X) (QB false e1)) X := by
  unfold bAnd; rw [TkU_bind]; refine TkU_ext fun b e1 => ?_; cases b <;> simp [Bif, TkU_pure]
theorem TkU_bOr {p q : M Bool} : TkU (bOr p q) e QB X = TkU p e (fun b e1 => Bif b (QB true e1) (TkU q e1 QB X)) X := by
  unfold bOr; rw [TkU_bind]; refine TkU_ext fun b e1 => ?_; cases b <;> simp [Bif, TkU_pure]
theorem TkU_bNot {p : M Bool} : TkU (bNot p) e QB X = TkU p e (fun b e1 => QB (!b) e1) X := by
  unfold bNot; rw [TkU_bind]; rfl
theorem TkU_xAnd : TkU (xAnd p q) e Q X = TkU p e (fun v e1 => So (bov v) fun b => Bif b (TkU q e1 Q X) (Q (.fz (.bl false)) e1)) X := by
  unfold xAnd; rw [TkU_bind]; refine TkU_ext fun v e1 => ?_
  cases v with
  | fz d =>
    cases d <;> try rfl
    rename_i b
    cases b
    · simp [bov, So, Bif, TkU_pure]
    · simp [bov, So, Bif, TkU_pure]
  | _ => rfl
theorem TkU_xOr : TkU (xOr p q) e Q X = TkU p e (fun v e1 => So (bov v) fun b => Bif b (Q (.fz (.bl true)) e1) (TkU q e1 Q X)) X := by
  unfold xOr; rw [TkU_bind]; refine TkU_ext fun v e1 => ?_
  cases v with
  | fz d =>
    cases d <;> try rfl
    rename_i b
    cases b
    · simp [bov, So, Bif, TkU_pure]
    · simp [bov, So, Bif, TkU_pure]
  | _ => rfl
theorem TkU_xNot : TkU (xNot p) e Q X = TkU p e (fun v e1 => So (bov v) fun b => Q (.fz (.bl (!b))) e1) X := by
  unfold xNot; rw [TkU_bind]; refine TkU_ext fun v e1 => ?_
  cases v with
  | fz d => cases d <;> rfl
  | _ => rfl
theorem TkU_xIf {c : M Bool} : TkU (xIf c p q) e Q X = TkU c e (fun b e1 => Bif b (TkU p e1 Q X) (TkU q e1 Q X)) X := by
  unfold xIf; rw [TkU_bind]; refine TkU_ext fun b e1 => ?_; cases b <;> simp [Bif]
theorem TkU_aNil : TkU aNil e QL X = QL [] e := rfl
def nfr : Val → Bool
  | .fr _ => false
  | _ => true
theorem TkU_aCons : TkU (aCons p pa) e QL X = TkU p e (fun a e1 => nfr a = true ∧ TkU pa e1 (fun r e2 => QL (a :: r) e2) X) X := by
  unfold aCons; rw [TkU_bind]; refine TkU_ext fun a e1 => ?_
  cases a <;> simp only [nfr, TkU_bind, TkU_pure, TkU_none, true_and] <;> simp
theorem TkU_xTup : TkU (xTup pa) e Q X = TkU pa e (fun vs e1 => So (fzs vs) fun ds => ds.length ≤ 100000 ∧ Q (.fz (.tup ds)) e1) X := by
  unfold xTup; rw [TkU_bind]; refine TkU_ext fun vs e1 => ?_
  refine (TkU_obind (A := fun _ => fzs vs)).trans (So_ext fun ds => ?_)
  exact TkU_oif (c := fun _ => ds.length ≤ 100000) (A := M.pure (Val.fz (.tup ds)))
theorem TkU_xLst : TkU (xLst pa) e Q X = TkU pa e (fun vs e1 => So (fzs vs) fun ds => ds.length ≤ 100000 ∧ Q (.fr (.lst ds)) e1) X := by
  unfold xLst; rw [TkU_bind]; refine TkU_ext fun vs e1 => ?_
  refine (TkU_obind (A := fun _ => fzs vs)).trans (So_ext fun ds => ?_)
  exact TkU_oif (c := fun _ => ds.length ≤ 100000) (A := M.pure (Val.fr (.lst ds)))
theorem TkU_xB {g : List D → Option Val} : TkU (xB g pa) e Q X = TkU pa e (fun vs e1 => So (derefs e1 vs) fun ds => So (g ds) fun v => Q v e1) X := by
  unfold xB; rw [TkU_bind]; refine TkU_ext fun vs e1 => ?_
  refine TkU_obind.trans (So_ext fun ds => ?_)
  exact TkU_omap (A := fun _ => g ds)
theorem TkU_xSet {g : List D → Option Val} : TkU (xSet g p) e Q X = TkU p e (fun a e1 => So (deref e1 a) fun d => So (match d with | .lst ds => g ds | _ => none) fun v => Q v e1) X := by
  unfold xSet; rw [TkU_bind]; refine TkU_ext fun a e1 => ?_
  refine TkU_obind.trans (So_ext fun d => ?_)
  cases d <;> try rfl
  exact TkU_omap (A := fun _ => g _)
def inv1 : Val → Option Int
  | .fz (.int i) => some i
  | _ => none
theorem TkU_oNone {QO : Option Int → SE → Prop} : TkU oNone e QO X = QO none e := rfl
theorem TkU_oSome {QO : Option Int → SE → Prop} : TkU (oSome p) e QO X = TkU p e (fun v e1 => So (inv1 v) fun i => QO (some i) e1) X := by
  unfold oSome; rw [TkU_bind]; refine TkU_ext fun v e1 => ?_
  cases v with
  | fz d => cases d <;> rfl
  | _ => rfl
theorem TkU_xSl {g : D → Option Int → Option Int → Option Val} {l h : M (Option Int)} : TkU (xSl g p l h) e Q X = TkU p e (fun a e1 => TkU l e1 (fun lo e2 => TkU h e2 (fun hi e3 => So (deref e3 a) fun d => So (g d lo hi) fun v => Q v e3) X) X) X := by
  unfold xSl; rw [TkU_bind]; refine TkU_ext fun a e1 => ?_; rw [TkU_bind]; refine TkU_ext fun lo e2 => ?_; rw [TkU_bind]; refine TkU_ext fun hi e3 => ?_
  refine TkU_obind.trans (So_ext fun d => ?_)
  exact TkU_omap (A := fun _ => g d lo hi)
theorem TkU_xChain {g h : D → D → Option Val} : TkU (xChain g h p q r) e Q X = TkU p e (fun x e1 => TkU q e1 (fun y e2 => So (deref e2 x) fun dx => So (deref e2 y) fun dy => So (g dx dy) fun v => So (bov v) fun b =>
    Bif b (TkU r e2 (fun z e3 => So (deref e3 y) fun dy => So (deref e3 z) fun dz => So (h dy dz) fun v => Q v e3) X) (Q (.fz (.bl false)) e2)) X) X := by
  unfold xChain; rw [TkU_bind]; refine TkU_ext fun x e1 => ?_; rw [TkU_bind]; refine TkU_ext fun y e2 => ?_
  refine TkU_obind.trans (So_ext fun dx => ?_)
  refine TkU_obind.trans (So_ext fun dy => ?_)
  cases hg : g dx dy with
  | none => rfl
  | some v =>
    cases v with
    | fz d =>
      cases d with
      | bl b =>
        cases b with
        | false => simp only [So_some, bov, Bif_f]; rfl
        | true =>
          simp only [So_some, bov, Bif_t]
          refine TkU_bind.trans (TkU_ext fun z e3 => ?_)
          refine TkU_obind.trans (So_ext fun da => ?_)
          refine TkU_obind.trans (So_ext fun db => ?_)
          exact TkU_omap (A := fun _ => h da db)
      | _ => rfl
    | _ => rfl
theorem TsU_sNil : TsU sNil e QS = QS (.nx e) := rfl
theorem TsU_sBrk : TsU sBrk e QS = QS (.bk e) := rfl
theorem TsU_sCnt : TsU sCnt e QS = QS (.ct e) := rfl
def SqU (t : SP) (Q : SOut → Prop) : SOut → Prop
  | .nx e => TsU t e Q
  | r => Q r
theorem TsU_sSeq {s t : SP} : TsU (sSeq s t) e QS = TsU s e (SqU t QS) := by
  unfold TsU sSeq
  cases h : s e with
  | none => rfl
  | some r => cases r <;> rfl
theorem TsU_sWith {p : M α} {f : α → SP} : TsU (sWith p f) e QS = TkU p e (fun a e1 => TsU (f a) e1 QS) (fun c d e1 => QS (.exc c d e1)) := by
  unfold TsU TkU sWith
  cases h : p e with
  | none => rfl
  | some r => cases r <;> rfl
theorem TsU_sDrop : TsU (sDrop p) e QS = TkU p e (fun _ e1 => QS (.nx e1)) (fun c d e1 => QS (.exc c d e1)) := by unfold sDrop; rw [TsU_sWith]; rfl
theorem TsU_sRet : TsU (sRet p) e QS = TkU p e (fun v e1 => QS (.rt v e1)) (fun c d e1 => QS (.exc c d e1)) := by unfold sRet; rw [TsU_sWith]; rfl
theorem TsU_sRetN : TsU sRetN e QS = QS (.rt (.fz .non) e) := rfl
theorem TsU_sIf {c : M Bool} {s t : SP} : TsU (sIf c s t) e QS = TkU c e (fun b e1 => Bif b (TsU s e1 QS) (TsU t e1 QS)) (fun c d e1 => QS (.exc c d e1)) := by
  unfold sIf; rw [TsU_sWith]; refine TkU_ext fun b e1 => ?_; cases b <;> simp [Bif]
theorem TsU_sSet {i : Nat} : TsU (sSet i p) e QS = TkU p e (fun v e1 => So (stow i v e1) fun e2 => QS (.nx e2)) (fun c d e1 => QS (.exc c d e1)) := by
  unfold sSet; rw [TsU_sWith]; refine TkU_ext fun v e1 => ?_; exact TsU_omap
def fzo : Val → Option D
  | .fz d => some d
  | _ => none
theorem TsU_sAsg {t : TgD} : TsU (sAsg p t) e QS = TkU p e (fun v e1 => So (fzo v) fun d => So (t d e1) fun e2 => QS (.nx e2)) (fun c d e1 => QS (.exc c d e1)) := by
  unfold sAsg; rw [TsU_sWith]; refine TkU_ext fun v e1 => ?_
  cases v with
  | fz d => simp only [fzo, So_some]; exact TsU_omap
  | fr d => rfl
  | bor i => rfl
theorem TsU_sPar {i j : Nat} : TsU (sPar i j p q) e QS = TkU p e (fun v e1 => TkU q e1 (fun u e2 => So (stow i v e2) fun e3 => So (stow j u e3) fun e4 => QS (.nx e4)) (fun c d e1 => QS (.exc c d e1))) (fun c d e1 => QS (.exc c d e1)) := by
  unfold sPar; rw [TsU_sWith]; refine TkU_ext fun v e1 => ?_; rw [TsU_sWith]; refine TkU_ext fun u e2 => ?_
  refine TsU_obind.trans (So_ext fun e3 => ?_)
  exact TsU_omap (A := fun _ => stow j u e3)
theorem TsU_sPar3 {i j l : Nat} : TsU (sPar3 i j l p q r) e QS = TkU p e (fun v e1 => TkU q e1 (fun u e2 => TkU r e2 (fun w e2 => So (stow i v e2) fun e3 => So (stow j u e3) fun e4 => So (stow l w e4) fun e5 => QS (.nx e5)) (fun c d e1 => QS (.exc c d e1))) (fun c d e1 => QS (.exc c d e1))) (fun c d e1 => QS (.exc c d e1)) := by
  unfold sPar3; rw [TsU_sWith]; refine TkU_ext fun v e1 => ?_; rw [TsU_sWith]; refine TkU_ext fun u e2 => ?_; rw [TsU_sWith]; refine TkU_ext fun w e3 => ?_
  refine TsU_obind.trans (So_ext fun e4 => ?_)
  refine (TsU_obind (A := fun _ => stow j u e4)).trans (So_ext fun e5 => ?_)
  exact TsU_omap (A := fun _ => stow l w e5)
theorem TsU_sFor {it : M (List D)} {t : TgD} {b : SP} : TsU (sFor it t b) e QS = TkU it e (fun ds e1 => FrU t b ds e1 QS) (fun c d e1 => QS (.exc c d e1)) := by unfold sFor; rw [TsU_sWith]; rfl
theorem TsU_sWhile {n : Nat} {c : M Bool} {b : SP} : TsU (sWhile n c b) e QS = WhU c b n e QS := rfl
theorem TsU_sRaise {c : Str} : TsU (sRaise c p) e QS = TkU p e (fun v e1 => So (fzo v) fun d => QS (.exc c d e1)) (fun c d e1 => QS (.exc c d e1)) := by
  unfold sRaise; rw [TsU_sWith]; refine TkU_ext fun v e1 => ?_
  cases v <;> rfl
end
end VE
namespace VE
open PySem PySem.Spec PyProof.Rows L2
section
variable {α β : Type} {e : SE} {X : PX} {Q : Val → SE → Prop} {QB : Bool → SE → Prop} {QL : List Val → SE → Prop} {QD : List D → SE → Prop} {QS : SOut → Prop} {p q r : M Val} {pa : M (List Val)}
def itv : Val → Option (List D)
  | .fz (.lst ds) => some ds
  | .fz (.tup ds) => some ds
  | .fz (.str s) => some (s.cps.toList.map fun c => .str ⟨#[c]⟩)
  | _ => none
theorem TkU_itD : TkU (itD p) e QD X = TkU p e (fun v e1 => So (itv v) fun ds => QD ds e1) X := by
  unfold itD; rw [TkU_bind]; refine TkU_ext fun v e1 => ?_
  cases v with
  | fz d => cases d <;> rfl
  | _ => rfl
def rng1 : List Int → Option (List D)
  | [j] => if wee j = true then some ((List.range j.toNat).map fun i => .int ((i : Nat) : Int)) else none
  | _ => none
def rng2 : List Int → Option (List D)
  | [i, j] => if wee i = true ∧ wee j = true then some ((List.range (j - i).toNat).map fun k => .int (i + (k : Nat))) else none
  | _ => none
theorem TkU_itR1 : TkU (itR1 pa) e QD X = TkU pa e (fun vs e1 => So (intsV vs) fun ns => So (rng1 ns) fun ds => QD ds e1) X := by
  unfold itR1; rw [TkU_bind]; refine TkU_ext fun vs e1 => ?_
  refine (TkU_obind (A := fun _ => intsV vs)).trans (So_ext fun ns => ?_)
  match ns with
  | [] => rfl
  | [j] =>
    refine (TkU_oif (c := fun _ => wee j = true) (A := M.pure _)).trans ?_
    unfold rng1; simp only []
    rw [So_ite]; rfl
  | _ :: _ :: _ => rfl
theorem TkU_itR2 : TkU (itR2 pa) e QD X = TkU pa e (fun vs e1 => So (intsV vs) fun ns => So (rng2 ns) fun ds => QD ds e1) X := by
  unfold itR2; rw [TkU_bind]; refine TkU_ext fun vs e1 => ?_
  refine (TkU_obind (A := fun _ => intsV vs)).trans (So_ext fun ns => ?_)
  match ns with
  | [] => rfl
  | [_] => rfl
  | [i, j] =>
    refine (TkU_oif (c := fun _ => wee i = true ∧ wee j = true) (A := M.pure _)).trans ?_
    unfold rng2; simp only []
    rw [So_ite]; rfl
  | _ :: _ :: _ :: _ => rfl
def enuv : List Val → Option (List D)
  | [.fz (.lst ds)] => some (enumL 0 ds)
  | _ => none
theorem TkU_itE : TkU (itE pa) e QD X = TkU pa e (fun vs e1 => So (enuv vs) fun ds => QD ds e1) X := by
  unfold itE; rw [TkU_bind]; refine TkU_ext fun vs e1 => ?_
  match vs with
  | [] => rfl
  | [.fz d] => cases d <;> rfl
  | [.fr d] => rfl
  | [.bor d] => rfl
  | .fz d :: _ :: _ => cases d <;> rfl
  | .fr d :: _ :: _ => rfl
  | .bor d :: _ :: _ => rfl
def zipv : List Val → Option (List D)
  | [.fz (.lst ds), .fz (.lst es)] => some (zipL ds es)
  | _ => none
theorem TkU_itZ : TkU (itZ pa) e QD X = TkU pa e (fun vs e1 => So (zipv vs) fun ds => QD ds e1) X := by
  unfold itZ; rw [TkU_bind]; refine TkU_ext fun vs e1 => ?_
  match vs with
  | [] => rfl
  | [.fz d] => cases d <;> rfl
  | [.fr d] => rfl
  | [.bor d] => rfl
  | [.fz d, .fz d2] => cases d <;> cases d2 <;> rfl
  | [.fz d, .fr d2] => cases d <;> rfl
  | [.fz d, .bor d2] => cases d <;> rfl
  | .fz d :: .fz d2 :: _ :: _ => cases d <;> cases d2 <;> rfl
  | .fz d :: .fr d2 :: _ :: _ => cases d <;> rfl
  | .fz d :: .bor d2 :: _ :: _ => cases d <;> rfl
  | .fr d :: _ :: _ => rfl
  | .bor d :: _ :: _ => rfl
def ncal (e1 : SE) (l : List Val) (Q : Val → SE → Prop) : Val → SE → Prop
  | .fz d, e' => So (backE e1 l e') fun e2 => Q (.fz d) e2
  | .fr d, e' => So (backE e1 l e') fun e2 => Q (.fr d) e2
  | .bor _, _ => False
def xcal (e1 : SE) (l : List Val) (X : PX) : PX := fun c d e' => So (backE e1 l e') fun e2 => X c d e2
theorem TkU_callE {n : Nat} {F : M Val} {l : List Val} : TkU (callE n F l) e Q X = ((l.length = n ∧ (bors l).Nodup) ∧ So (argsE e l) fun e0 => TkU F e0 (ncal e l Q) (xcal e l X)) := by
  refine (TkU_oif (c := fun _ => l.length = n ∧ (bors l).Nodup) (A := fun env => (argsE env l).bind fun e0 => match F e0 with
      | some (.ok (.fz d) e1) => (backE env l e1).map (.ok (Val.fz d))
      | some (.ok (.fr d) e1) => (backE env l e1).map (.ok (Val.fr d))
      | some (.exc c d e1) => (backE env l e1).map (.exc c d)
      | _ => none)).trans ?_
  refine congrArg _ ?_
  refine (TkU_obind (A := fun env => argsE env l)).trans (So_ext fun e0 => ?_)
  unfold TkU; dsimp only
  generalize F e0 = o
  cases o with
  | none => rfl
  | some r =>
    cases r with
    | ok v e1 =>
      cases v with
      | fz d => simp only [ncal]; cases backE e l e1 <;> rfl
      | fr d => simp only [ncal]; cases backE e l e1 <;> rfl
      | bor i => rfl
    | exc c d e1 => simp only [xcal]; cases backE e l e1 <;> rfl
theorem TkU_xdef {n : Nat} {F : M Val} : TkU (xdef n F pa) e Q X = TkU pa e (fun l e1 => (l.length = n ∧ (bors l).Nodup) ∧ So (argsE e1 l) fun e0 => TkU F e0 (ncal e1 l Q) (xcal e1 l X)) X := by
  unfold xdef; rw [TkU_bind]; refine TkU_ext fun l e1 => ?_
  exact TkU_callE
theorem TkU_xNam {m n : Nat} {π : List Nat} {F : M Val} : TkU (xNam m n π F pa) e Q X = TkU pa e (fun z e1 => z.length = m ∧ TkU (callE n F (pick π z)) e1 Q X) X := by
  unfold xNam; rw [TkU_bind]; refine TkU_ext fun z e1 => ?_
  exact TkU_oif (c := fun _ => z.length = m) (A := callE n F (pick π z))
def lastI (e : SE) : Option (Str × List (Str × D)) := match e.getLast? with
  | some (some (.own (.ins c fs))) => some (c, fs)
  | _ => none
def nmk (e1 : SE) (l : List Val) (Q : Val → SE → Prop) : Val → SE → Prop
  | .fz .non, e' => So (backE e1 l e') fun e2 => So (lastI e2) fun p => Q (.fr (.ins p.1 p.2)) e2.dropLast
  | _, _ => False
def xmkx (e1 : SE) (l : List Val) (X : PX) : PX := fun c d e' => So (backE e1 l e') fun e2 => X c d e2.dropLast
theorem TkU_xMk {c : Str} {n : Nat} {F : M Val} : TkU (xMk c n F pa) e Q X = TkU pa e (fun l e1 => (l.length + 1 = n ∧ (bors (.bor e1.length :: l)).Nodup) ∧
    So (argsE (e1 ++ [some (.own (.ins c []))]) (.bor e1.length :: l)) fun e0 => TkU F e0 (nmk (e1 ++ [some (.own (.ins c []))]) (.bor e1.length :: l) Q) (xmkx (e1 ++ [some (.own (.ins c []))]) (.bor e1.length :: l) X)) X := by
  unfold xMk; rw [TkU_bind]; refine TkU_ext fun l e1 => ?_
  refine (TkU_oif (c := fun env => l.length + 1 = n ∧ (bors (.bor env.length :: l)).Nodup) (A := mkE c F l)).trans ?_
  refine congrArg _ ?_
  unfold mkE
  refine (TkU_obind (A := fun env => argsE (env ++ [some (.own (.ins c []))]) (.bor env.length :: l))).trans (So_ext fun e0 => ?_)
  unfold TkU; dsimp only
  generalize F e0 = o
  cases o with
  | none => rfl
  | some r =>
    cases r with
    | ok v e2 =>
      cases v with
      | fz d =>
        cases d <;> try rfl
        simp only [nmk]
        cases backE (e1 ++ [some (.own (.ins c []))]) (.bor e1.length :: l) e2 with
        | none => rfl
        | some e3 =>
          simp only [Option.bind_some, So_some, lastI]
          cases e3.getLast? with
          | none => rfl
          | some o => cases o with
            | none => rfl
            | some b => cases b with
              | own d => cases d <;> rfl
              | _ => rfl
      | fr d => rfl
      | bor i => rfl
    | exc k d e2 =>
      simp only [xmkx]
      cases backE (e1 ++ [some (.own (.ins c []))]) (.bor e1.length :: l) e2 <;> rfl
theorem TkU_aRecv {c m : Str} : TkU (aRecv c m p pa) e QL X = TkU p e (fun v e1 => nfr v = true ∧ isIns c m e1 v = true ∧ TkU pa e1 (fun l e2 => QL (v :: l) e2) X) X := by
  unfold aRecv; rw [TkU_bind]; refine TkU_ext fun v e1 => ?_
  have go : ∀ v : Val, TkU (fun env => if isIns c m env v = true then (pa.bind fun l => M.pure (v :: l)) env else none) e1 QL X = (isIns c m e1 v = true ∧ TkU pa e1 (fun l e2 => QL (v :: l) e2) X) := fun v => by
    by_cases h : isIns c m e1 v = true
    · have : TkU (pa.bind fun l => M.pure (v :: l)) e1 QL X = TkU pa e1 (fun l e2 => QL (v :: l) e2) X := by rw [TkU_bind]; rfl
      rw [← this]
      simp only [h, true_and]
      unfold TkU; simp only [h, if_true]
    · unfold TkU; simp [h]
  cases v with
  | fr d => simp [nfr, TkU_none]
  | fz d => simp only [nfr, true_and]; exact go _
  | bor i => simp only [nfr, true_and]; exact go _
theorem TkU_xMeth {c m : Str} {n : Nat} {F : M Val} : TkU (xMeth c m n F p pa) e Q X = TkU (xdef n F (aRecv c m p pa)) e Q X := rfl
theorem TkU_nox : TkU (nox p) e Q X = TkU p e Q NX := by
  unfold TkU nox
  cases h : p e with
  | none => rfl
  | some r => cases r <;> rfl
theorem TkU_xProp {c m : Str} {F : M Val} : TkU (xProp c m F p) e Q X = TkU p e (fun v e1 => isIns c "" e1 v = true ∧ TkU (callE 1 F [v]) e1 Q NX) X := by
  unfold xProp; rw [TkU_bind]; refine TkU_ext fun v e1 => ?_
  rw [← TkU_nox (X := X)]
  exact TkU_oif (c := fun env => isIns c "" env v = true) (A := nox (callE 1 F [v]))
def fldv (c m : Str) : D → Option D
  | .ins c' fs => if c' = c then fs.lookup m else none
  | _ => none
theorem TkU_xFld {c m : Str} : TkU (xFld c m p) e Q X = TkU p e (fun v e1 => So (deref e1 v) fun d => So (fldv c m d) fun u => Q (.fz u) e1) X := by
  unfold xFld; rw [TkU_bind]; refine TkU_ext fun v e1 => ?_
  unfold TkU; dsimp only
  generalize deref e1 v = o
  cases o with
  | none => rfl
  | some d =>
    cases d <;> try rfl
    rename_i c' fs
    simp only [So_some, fldv]
    by_cases h : c' = c
    · simp only [h, if_true]
      cases fs.lookup m <;> rfl
    · simp only [h, if_false]; rfl
theorem TkU_two {c : Str} {F : M Val} {alt : D → D → Option Val} : TkU (two c F alt p q) e Q X = TkU p e (fun v e1 => TkU q e1 (fun u e2 => Bif (isIns c "" e2 v && isIns c "" e2 u) (TkU (callE 2 F [v, u]) e2 Q NX) (So (deref e2 v) fun da => So (deref e2 u) fun db => So (alt da db) fun w => Q w e2)) X) X := by
  unfold two; rw [TkU_bind]; refine TkU_ext fun v e1 => ?_; rw [TkU_bind]; refine TkU_ext fun u e2 => ?_
  rw [← TkU_nox (X := X)]
  unfold Bif
  by_cases h : (isIns c "" e2 v && isIns c "" e2 u) = true
  · rw [if_pos h]
    unfold TkU; simp only [h, if_true]
  · rw [if_neg h]
    unfold TkU; simp only [h]
    simp only [Bool.false_eq_true, if_false]
    generalize deref e2 v = o
    generalize deref e2 u = o2
    cases o with
    | none => rfl
    | some da => cases o2 with
      | none => rfl
      | some db =>
        simp only [Option.bind_some, So_some]
        cases alt da db <;> rfl
def natv : Val → Option Nat
  | .fz (.int (.ofNat n)) => if n < 2 ^ 63 then some n else none
  | _ => none
def one1 {α : Type} : List α → Option α
  | [v] => some v
  | _ => none
theorem TkU_lenO {c : Str} {F : M Val} {alt : List D → Option Val} : TkU (lenO c F alt pa) e Q X = TkU pa e (fun l e1 => So (one1 l) fun v => Bif (isIns c "" e1 v) (TkU (callE 1 F [v]) e1 (fun w e2 => So (natv w) fun n => Q (.fz (.int n)) e2) NX) (So (derefs e1 l) fun ds => So (alt ds) fun w => Q w e1)) X := by
  unfold lenO; rw [TkU_bind]; refine TkU_ext fun l e1 => ?_
  match l with
  | [] => rfl
  | _ :: _ :: _ => rfl
  | [v] =>
    simp only [one1, So_some]
    unfold Bif
    by_cases h : isIns c "" e1 v = true
    · rw [if_pos h]
      unfold TkU nox; simp only [h, if_true]
      generalize callE 1 F [v] e1 = o
      cases o with
      | none => rfl
      | some r =>
        cases r with
        | exc _ _ _ => rfl
        | ok w e2 =>
          cases w <;> try rfl
          rename_i d
          cases d <;> try rfl
          rename_i i
          cases i <;> try rfl
          rename_i n
          simp only [natv]
          by_cases hn : n < 2 ^ 63
          · simp only [hn, if_true, So_some]
          · simp only [hn, if_false]; rfl
    · rw [if_neg h]
      unfold TkU; simp only [h]
      simp only [Bool.false_eq_true, if_false]
      generalize derefs e1 [v] = o
      cases o with
      | none => rfl
      | some ds =>
        simp only [Option.bind_some, So_some]
        cases alt ds <;> rfl
theorem TkU_xOpO {c : Str} {F : M Val} : TkU (xOpO c F p q) e Q X = TkU p e (fun v e1 => TkU q e1 (fun u e2 => (isIns c "" e2 v && isIns c "" e2 u) = true ∧ TkU (callE 2 F [v, u]) e2 Q X) X) X := by
  unfold xOpO; rw [TkU_bind]; refine TkU_ext fun v e1 => ?_; rw [TkU_bind]; refine TkU_ext fun u e2 => ?_
  exact TkU_oif (c := fun env => (isIns c "" env v && isIns c "" env u) = true) (A := callE 2 F [v, u])
theorem TkU_xIsI {tb : Str → Option Bool} : TkU (xIsI tb p) e Q X = TkU p e (fun v e1 => So (deref e1 v) fun d => So (isD2 tb d) fun b => Q (.fz (.bl b)) e1) X := by
  unfold xIsI; rw [TkU_bind]; refine TkU_ext fun v e1 => ?_
  refine TkU_obind.trans (So_ext fun d => ?_)
  unfold TkU; dsimp only
  cases isD2 tb d <;> rfl
theorem TkU_xDn {t : Nat} : TkU (xDn t) e Q X = Q (.fr (.dct t [])) e := rfl
theorem TkU_xDisp1 : TkU (xDisp1 p q) e Q X = TkU p e (fun a e1 => So (fzo a) fun kd => TkU q e1 (fun b e2 => So (fzo b) fun d => So (keyD kd) fun _ => Q (.fr (.dct 0 [(kd, d)])) e2) X) X := by
  unfold xDisp1; rw [TkU_bind]; refine TkU_ext fun a e1 => ?_
  cases a with
  | fz kd =>
    simp only [dispK, fzo, So_some]
    rw [TkU_bind]; refine TkU_ext fun b e2 => ?_
    cases b with
    | fz d =>
      unfold TkU dispV; dsimp only
      generalize keyD kd = o
      cases o <;> rfl
    | _ => rfl
  | _ => rfl
theorem TkU_xJoin : TkU (xJoin p q) e Q X = TkU p e (fun v e1 => So (match v with | .fz (.str s) => some s | _ => none) fun s => TkU q e1 (fun b e2 => So (deref e2 b) fun db => So (joinD (.str s) db) fun v => Q v e2) X) X := by
  unfold xJoin; rw [TkU_x2, TkU_bind]; refine TkU_ext fun v e1 => ?_
  cases v with
  | fz d => cases d <;> rfl
  | _ => rfl
theorem TkU_xEv : TkU xEv e Q X = So (ghostD e) fun d => Q (.fz d) e := by
  unfold TkU xEv
  generalize ghostD e = o
  cases o <;> rfl
theorem TkU_xIsE {b : Bool} : TkU (xIsE b) e Q X = So (ghostD e) fun _ => Q (.fz (.bl b)) e := by
  unfold TkU xIsE
  generalize ghostD e = o
  cases o <;> rfl
theorem TkU_bYes : TkU bYes e QB X = QB true e := rfl
theorem TkU_xMut {i : Nat} {g : List D → List D → Option (List D × D)} : TkU (xMut i g pa) e Q X = So (ownL e i) fun _ => TkU pa e (fun vs e1 => So (ownL e1 i) fun ds => So (fzs vs) fun as => So (g ds as) fun r => Q (.fz r.2) (putE e1 i (.lst r.1))) X := by
  refine (TkU_obind (A := fun env0 => ownL env0 i) (B := fun _ => pa.bind fun vs env => (ownL env i).bind fun ds => (fzs vs).bind fun as => (g ds as).map fun r => Out.ok (Val.fz r.2) (putE env i (.lst r.1)))).trans (So_ext fun _ => ?_)
  rw [TkU_bind]; refine TkU_ext fun vs e1 => ?_
  refine (TkU_obind (A := fun env => ownL env i)).trans (So_ext fun ds => ?_)
  refine (TkU_obind (A := fun _ => fzs vs)).trans (So_ext fun as => ?_)
  unfold TkU; dsimp only
  generalize g ds as = o
  cases o <;> rfl
def Stu (i : Nat) (d : D) (k : Val) (e : SE) (Q : SE → Prop) : Prop := match ownD e i with
  | some (t, kvs) => So (fzo k) fun kd => So (dKey t kd) fun n => kvs.length < 100000 ∧ Q (putE e i (.dct t (dPut kvs n kd d)))
  | none => So (inv1 k) fun j => So (ownL e i) fun ds => So (ixN ds.length j) fun m => Q (putE e i (.lst (ds.set m d)))
theorem TsU_stU {i : Nat} {d : D} {k : Val} : TsU (stU i d k) e QS = Stu i d k e fun e2 => QS (.nx e2) := by
  unfold TsU stU Stu
  cases ownD e i with
  | some tk =>
    obtain ⟨t, kvs⟩ := tk
    cases k with
    | fz kd =>
      simp only [fzo, So_some]
      cases dKey t kd with
      | none => rfl
      | some n => by_cases h : kvs.length < 100000 <;> simp [h, So]
    | _ => rfl
  | none =>
    simp only [stK]
    cases k with
    | fz kd =>
      cases kd <;> try rfl
      rename_i j
      simp only [inv1, So_some]
      cases ownL e i with
      | none => rfl
      | some ds =>
        simp only [Option.bind_some, So_some]
        cases ixN ds.length j <;> rfl
    | _ => rfl
def owE (i : Nat) (e : SE) : Bool := match e[i]? with
  | some (some b) => b.ow
  | _ => false
theorem TsU_sStU {i : Nat} : TsU (sStU i p q) e QS = TkU p e (fun v e1 => So (fzo v) fun d => owE i e1 = true ∧ TkU q e1 (fun k e2 => Stu i d k e2 fun e3 => QS (.nx e3)) (fun c d e1 => QS (.exc c d e1))) (fun c d e1 => QS (.exc c d e1)) := by
  unfold sStU; rw [TsU_sWith]; refine TkU_ext fun v e1 => ?_
  cases v with
  | fz d =>
    simp only [fzo, So_some]
    have h : TsU (stW i q (.fz d)) e1 QS = (owE i e1 = true ∧ TsU (sWith q (stU i d)) e1 QS) := by
      unfold TsU stW owE
      cases e1[i]? with
      | none => simp
      | some o => cases o with
        | none => simp
        | some b => by_cases hb : b.ow = true <;> simp [hb]
    rw [h, TsU_sWith]
    congr 1; refine TkU_ext fun k e2 => ?_; exact TsU_stU
  | _ => rfl
def fldk (i : Nat) (c m : Str) (d : D) (e : SE) (Q : SE → Prop) (b : Bnd) : Prop := match b.d with
  | .ins c' fs => (c' = c ∧ b.ow = true ∧ fs.length < 1000 ∧ flatD (.ins c' fs) = true) ∧ Q (e.set i (some (b.put (.ins c' (putD m d fs)))))
  | _ => False
theorem TsU_sFldE {i : Nat} {c m : Str} : TsU (sFldE i c m p) e QS = TkU p e (fun v e1 => So (fzo v) fun d => So (e1[i]?.bind id) fun b => fldk i c m d e1 (fun e2 => QS (.nx e2)) b) (fun c d e1 => QS (.exc c d e1)) := by
  unfold sFldE; rw [TsU_sWith]; refine TkU_ext fun v e1 => ?_
  cases v with
  | fz d =>
    simp only [fzo, So_some]
    unfold TsU fldE
    simp only []
    cases e1[i]? with
    | none => rfl
    | some o => cases o with
      | none => rfl
      | some b =>
        simp only [Option.bind_some, id, So_some, fldk]
        cases b.d <;> try rfl
        rename_i c' fs
        simp only []
        by_cases h : c' = c ∧ b.ow = true ∧ fs.length < 1000 ∧ flatD (.ins c' fs) = true
        · rw [if_pos h, eq_true h, true_and]
        · rw [if_neg h, eq_false h, false_and]
  | _ => rfl
def TrykU (i : Nat) (catches : Str → Option Bool) (suite : Str → SP) (Q : SOut → Prop) : SOut → Prop
  | .exc c d e => match catches c with
    | some true => i < e.length ∧ TsU (suite c) (e.set i none ++ [some (.fz (errD d))]) fun r => So (tryOut i r) Q
    | some false => Q (.exc c d e)
    | none => False
  | r => Q r
theorem TsU_sTry {i : Nat} {catches : Str → Option Bool} {s : SP} {suite : Str → SP} : TsU (sTry i catches s suite) e QS = TsU s e (TrykU i catches suite QS) := by
  unfold sTry
  unfold TsU; dsimp only
  generalize s e = o
  cases o with
  | none => rfl
  | some r =>
    cases r with
    | exc c d e1 =>
      dsimp only [TrykU]
      generalize catches c = o
      cases o with
      | none => rfl
      | some b =>
        cases b
        · rfl
        · dsimp only
          by_cases h : i < e1.length
          · simp only [h, if_true, true_and]
            unfold TsU; dsimp only
            generalize suite c (e1.set i none ++ [some (Bnd.fz (errD d))]) = o
            cases o with
            | none => rfl
            | some r => simp only [Option.bind_some]; generalize tryOut i r = o; cases o <;> rfl
          · simp only [h, if_false, false_and]
    | _ => rfl
theorem TsU_sSetE {j : Nat} : TsU (sSetE j p) e QS = TkU p e (fun v e1 => j + 1 < e1.length ∧ So (stow j v e1) fun e2 => QS (.nx e2)) (fun c d e1 => QS (.exc c d e1)) := by
  unfold sSetE; rw [TsU_sWith]; refine TkU_ext fun v e1 => ?_
  unfold TsU
  by_cases h : j + 1 < e1.length
  · simp only [h, if_true, true_and]; cases stow j v e1 <;> rfl
  · simp [h]
def endk (e : SE) (Q : Val → SE → Prop) (X : PX) : SOut → Prop
  | .nx e' => Q (.fz .non) (ioB e e')
  | .rt (.fz d) e' => Q (.fz d) (ioB e e')
  | .rt (.fr d) e' => Q (.fr d) (ioB e e')
  | .exc c d e' => X c d (ioB e e')
  | _ => False
theorem TkU_semF {n N : Nat} {P : SP} : TkU (semF n N P) e Q X = (e.length = n ∧ TsU P (e ++ List.replicate (N - n) none) (endk e Q X)) := by
  unfold semF TkU TsU
  by_cases h : e.length = n
  · simp only [h, if_true, true_and]
    cases P (e ++ List.replicate (N - n) none) with
    | none => rfl
    | some r =>
      cases r with
      | rt v e' => cases v <;> rfl
      | _ => rfl
  · simp [h]
end
section
variable {α : Type} {e : SE} {t : TgD} {b : SP} {enc : α → D} {Q : SOut → Prop}
def Tg (t : TgD) (d : D) (e : SE) (k : SE → Prop) (_ : Opq k := .mk) : Prop := So (t d e) k
theorem Tg_gN {i : Nat} {d : D} {k : SE → Prop} : Tg (gN i) d e k = So (stow i (.fz d) e) k := rfl
def turn (I : SE → Prop) (Q : SOut → Prop) : SOut → Prop
  | .nx e => I e
  | .ct e => I e
  | .bk e => Q (.nx e)
  | r => Q r
theorem FrU.inv (xs : List α) (I : List α → SE → Prop) (h0 : I [] e) (step : ∀ pre x post e, xs = pre ++ x :: post → I pre e → Tg t (enc x) e fun e1 => TsU b e1 (turn (I (pre ++ [x])) Q)) (hf : ∀ e, I xs e → Q (.nx e)) : FrU t b (xs.map enc) e Q := by
  have go : ∀ (ys pre : List α) (e : SE), xs = pre ++ ys → I pre e → TsU (forRun t b (ys.map enc)) e Q := fun ys => by
    induction ys with
    | nil =>
      intro pre e h1 h2
      rw [List.append_nil] at h1
      exact hf e (h1 ▸ h2)
    | cons y ys ih =>
      intro pre e h1 h2
      have h3 := step pre y ys e h1 h2
      unfold Tg So at h3
      unfold TsU
      simp only [List.map_cons, forRun]
      split at h3
      · rename_i e1 he1
        rw [he1, Option.bind_some]
        unfold TsU at h3
        split at h3
        · rename_i r hr
          rw [hr]
          cases r with
          | nx e2 => exact ih (pre ++ [y]) e2 (by rw [h1, List.append_assoc]; rfl) h3
          | ct e2 => exact ih (pre ++ [y]) e2 (by rw [h1, List.append_assoc]; rfl) h3
          | bk e2 => exact h3
          | rt v e2 => exact h3
          | exc c d e2 => exact h3
        · exact h3.elim
      · exact h3.elim
  exact go xs [] e rfl h0
theorem WhU.inv {c : M Bool} {n m : Nat} (I : Nat → SE → Prop) (h0 : I m e) (hn : m < n) (step : ∀ m e, I m e → TkU c e (fun x e1 => Bif x (TsU b e1 (turn (fun e2 => ∃ m', m' < m ∧ I m' e2) Q)) (Q (.nx e1))) (fun x d e1 => Q (.exc x d e1))) : WhU c b n e Q := by
  unfold WhU
  induction n generalizing m e with
  | zero => omega
  | succ n ih =>
    have h := step m e h0
    unfold TsU
    simp only [whRun]
    unfold TkU at h
    cases hc : c e with
    | none => rw [hc] at h; exact h
    | some r =>
      rw [hc] at h
      cases r with
      | exc x d e1 => exact h
      | ok x e1 =>
        cases x with
        | false => simp only [Bif_f] at h; exact h
        | true =>
          simp only [Bif_t] at h
          unfold TsU at h
          simp only []
          cases hb : b e1 with
          | none => rw [hb] at h; exact h
          | some r =>
            rw [hb] at h
            cases r with
            | nx e2 => obtain ⟨m', h1, h2⟩ := h; exact ih h2 (by omega)
            | ct e2 => obtain ⟨m', h1, h2⟩ := h; exact ih h2 (by omega)
            | bk e2 => exact h
            | rt v e2 => exact h
            | exc c d e2 => exact h
def LrU (vs : List Nat) (t : TgD) (c : M Bool) (el : M Val) (ds : List D) (acc : List D) (e : SE) (Q : Val → SE → Prop) (_ : Opq (vs, t, c, el, acc, Q) := .mk) : Prop := TkU (lcRun vs t c el ds acc) e Q NX
theorem TkU_xLc {it : M (List D)} {vs : List Nat} {t : TgD} {c : M Bool} {el : M Val} {Q : Val → SE → Prop} {X : PX} : TkU (xLc it vs t c el) e Q X = TkU it e (fun ds e1 => ds.length ≤ 50000 ∧ LrU vs t c el ds [] e1 Q) X := by
  have lem : ∀ (ds acc : List D) (e : SE), TkU (lcRun vs t c el ds acc) e Q X = TkU (lcRun vs t c el ds acc) e Q NX := fun ds => by
    induction ds with
    | nil => intro acc e; rfl
    | cons d ds ih =>
      intro acc e
      unfold TkU
      simp only [lcRun]
      by_cases h : okV e vs = true
      · simp only [h, if_true]
        cases t d (wipeE e vs) with
        | none => rfl
        | some e1 =>
          simp only [Option.bind_some]
          cases c e1 with
          | none => rfl
          | some r =>
            cases r with
            | exc _ _ _ => rfl
            | ok x e2 =>
              cases x with
              | false => simp only []; exact ih _ _
              | true =>
                simp only []
                cases el e2 with
                | none => rfl
                | some r =>
                  cases r with
                  | exc _ _ _ => rfl
                  | ok v e3 =>
                    cases v with
                    | fz y => simp only []; exact ih _ _
                    | _ => rfl
      · simp [h]
  unfold xLc; unfold TkU; dsimp only
  generalize it e = o
  cases o with
  | none => rfl
  | some r => cases r with
    | exc _ _ _ => rfl
    | ok ds e1 =>
      dsimp only
      by_cases h : ds.length ≤ 50000
      · simp only [h, if_true, true_and]
        have h1 := lem ds [] e1
        unfold LrU
        rw [← h1]
        unfold TkU; rfl
      · simp [h]
theorem LrU.inv {vs : List Nat} {c : M Bool} {el : M Val} {Q : Val → SE → Prop} (xs : List α) (I : List α → List D → SE → Prop) (h0 : I [] [] e)
    (step : ∀ pre x post acc e, xs = pre ++ x :: post → I pre acc e → okV e vs = true ∧ Tg t (enc x) (wipeE e vs) fun e1 => TkU c e1 (fun b e2 => Bif b (TkU el e2 (fun v e3 => So (fzo v) fun y => I (pre ++ [x]) (acc ++ [y]) (restE e e3 vs)) NX) (I (pre ++ [x]) acc (restE e e2 vs))) NX)
    (hf : ∀ acc e, I xs acc e → Q (.fr (.lst acc)) e) : LrU vs t c el (xs.map enc) [] e Q := by
  have go : ∀ (ys pre : List α) (acc : List D) (e : SE), xs = pre ++ ys → I pre acc e → LrU vs t c el (ys.map enc) acc e Q := fun ys => by
    induction ys with
    | nil =>
      intro pre acc e h1 h2
      rw [List.append_nil] at h1
      exact hf acc e (h1 ▸ h2)
    | cons y ys ih =>
      intro pre acc e h1 h2
      obtain ⟨h4, h3⟩ := step pre y ys acc e h1 h2
      unfold Tg So at h3
      unfold LrU TkU
      simp only [List.map_cons, lcRun, h4, if_true]
      split at h3
      · rename_i e1 he1
        rw [he1, Option.bind_some]
        unfold TkU at h3
        cases hc : c e1 with
        | none => rw [hc] at h3; exact h3
        | some r =>
          rw [hc] at h3
          cases r with
          | exc _ _ _ => exact h3
          | ok x e2 =>
            cases x with
            | false => simp only [Bif_f] at h3; exact ih (pre ++ [y]) _ _ (by rw [h1, List.append_assoc]; rfl) h3
            | true =>
              simp only [Bif_t] at h3
              simp only []
              cases hb : el e2 with
              | none => rw [hb] at h3; exact h3
              | some r =>
                rw [hb] at h3
                cases r with
                | exc _ _ _ => exact h3
                | ok v e3 =>
                  cases v with
                  | fz y' => exact ih (pre ++ [y]) _ _ (by rw [h1, List.append_assoc]; rfl) h3
                  | fr d => exact h3.elim
                  | bor i => exact h3.elim
      · exact h3.elim
  exact go xs [] [] e rfl h0
theorem LrU.map {vs : List Nat} {c : M Bool} {el : M Val} {Q : Val → SE → Prop} (xs : List α) (pr : α → Bool) (g : α → D)
    (step : ∀ x ∈ xs, okV e vs = true ∧ Tg t (enc x) (wipeE e vs) fun e1 => TkU c e1 (fun b e2 => b = pr x ∧ Bif b (TkU el e2 (fun v e3 => v = .fz (g x) ∧ restE e e3 vs = e) NX) (restE e e2 vs = e)) NX)
    (hf : Q (.fr (.lst ((xs.filter pr).map g))) e) : LrU vs t c el (xs.map enc) [] e Q := by
  refine LrU.inv xs (fun pre acc e1 => e1 = e ∧ acc = (pre.filter pr).map g) ⟨rfl, rfl⟩ ?_ fun acc e1 ⟨h1, h2⟩ => by rw [h1, h2]; exact hf
  rintro pre x post acc e1 hx ⟨rfl, rfl⟩
  obtain ⟨h1, h2⟩ := step x (by rw [hx]; simp)
  refine ⟨h1, ?_⟩
  unfold Tg So at h2 ⊢
  split at h2
  · rename_i e2 _
    refine h2.mono' fun b e3 ⟨hb, h4⟩ => ?_
    subst hb
    cases hp : pr x
    · rw [hp] at h4
      rw [Bif_f] at h4 ⊢
      exact ⟨h4, by simp [hp]⟩
    · rw [hp] at h4
      rw [Bif_t] at h4 ⊢
      refine h4.mono' fun v e3 ⟨hv, h5⟩ => ?_
      subst hv
      exact ⟨h5, by simp [hp]⟩
  · exact h2
end
end VE
namespace VE
open PySem PySem.Spec PyProof.Rows L2
structure Tk {α : Type} (p : M α) (e : SE) (Q : α → SE → Prop) (X : PX) (o : Opq (p, Q, X) := .mk) : Prop where
  h : TkU p e Q X
structure Ts (p : SP) (e : SE) (Q : SOut → Prop) (o : Opq (p, Q) := .mk) : Prop where
  h : TsU p e Q
theorem Tk_is : @Tk = @TkU := by
  funext α p e Q X o
  exact propext ⟨fun h => h.h, fun h => ⟨h⟩⟩
theorem Ts_is : @Ts = @TsU := by
  funext p e Q o
  exact propext ⟨fun h => h.h, fun h => ⟨h⟩⟩
def Fr (t : TgD) (b : SP) (ds : List D) (e : SE) (Q : SOut → Prop) (_ : Opq (t, b, Q) := .mk) : Prop := Ts (forRun t b ds) e Q
def Wh (c : M Bool) (b : SP) (n : Nat) (e : SE) (Q : SOut → Prop) (_ : Opq (c, b, n, Q) := .mk) : Prop := Ts (whRun c b n) e Q
def Sq (t : SP) (Q : SOut → Prop) : SOut → Prop
  | .nx e => Ts t e Q
  | r => Q r
def Tryk (i : Nat) (catches : Str → Option Bool) (suite : Str → SP) (Q : SOut → Prop) : SOut → Prop
  | .exc c d e => match catches c with
    | some true => i < e.length ∧ Ts (suite c) (e.set i none ++ [some (.fz (errD d))]) fun r => So (tryOut i r) Q
    | some false => Q (.exc c d e)
    | none => False
  | r => Q r
def Lr (vs : List Nat) (t : TgD) (c : M Bool) (el : M Val) (ds : List D) (acc : List D) (e : SE) (Q : Val → SE → Prop) (_ : Opq (vs, t, c, el, acc, Q) := .mk) : Prop := Tk (lcRun vs t c el ds acc) e Q NX
theorem Fr_is : @Fr = @FrU := by unfold Fr FrU; rw [Ts_is]
theorem Wh_is : @Wh = @WhU := by unfold Wh WhU; rw [Ts_is]
theorem Lr_is : @Lr = @LrU := by unfold Lr LrU; rw [Tk_is]
theorem Sq_is : @Sq = @SqU := by
  funext t Q r
  cases r <;> first | rfl | (show Ts _ _ _ = _; rw [Ts_is]; rfl)
theorem Tryk_is : @Tryk = @TrykU := by
  funext i c s Q r
  cases r <;> try rfl
  unfold Tryk TrykU
  rw [Ts_is]
  try rfl
theorem Tk_ext {α : Type} {p : M α} {e : SE} {Q Q' : α → SE → Prop} {X : PX} (h : ∀ a e, Q a e = Q' a e) : Tk p e Q X = Tk p e Q' X := by
  have hU := @TkU_ext; (try rw [← Tk_is] at hU); (try rw [← Ts_is] at hU); (try rw [← Fr_is] at hU); (try rw [← Wh_is] at hU); (try rw [← Lr_is] at hU); (try rw [← Sq_is] at hU); (try rw [← Tryk_is] at hU)
  exact hU h
theorem Tk.mono {α : Type} {p : M α} {e : SE} {Q Q' : α → SE → Prop} {X X' : PX} (h : Tk p e Q X) (k : ∀ a e', Q a e' → Q' a e') (kx : ∀ c d e', X c d e' → X' c d e') : Tk p e Q' X' := by
  have hU := @TkU.mono; (try rw [← Tk_is] at hU); (try rw [← Ts_is] at hU); (try rw [← Fr_is] at hU); (try rw [← Wh_is] at hU); (try rw [← Lr_is] at hU); (try rw [← Sq_is] at hU); (try rw [← Tryk_is] at hU)
  exact hU h k kx
theorem Tk.mono' {α : Type} {p : M α} {e : SE} {Q Q' : α → SE → Prop} {X' : PX} (h : Tk p e Q NX) (k : ∀ a e', Q a e' → Q' a e') : Tk p e Q' X' := by
  have hU := @TkU.mono'; (try rw [← Tk_is] at hU); (try rw [← Ts_is] at hU); (try rw [← Fr_is] at hU); (try rw [← Wh_is] at hU); (try rw [← Lr_is] at hU); (try rw [← Sq_is] at hU); (try rw [← Tryk_is] at hU)
  exact hU h k
theorem Ts.mono {p : SP} {e : SE} {Q Q' : SOut → Prop} (h : Ts p e Q) (k : ∀ r, Q r → Q' r) : Ts p e Q' := by
  have hU := @TsU.mono; (try rw [← Tk_is] at hU); (try rw [← Ts_is] at hU); (try rw [← Fr_is] at hU); (try rw [← Wh_is] at hU); (try rw [← Lr_is] at hU); (try rw [← Sq_is] at hU); (try rw [← Tryk_is] at hU)
  exact hU h k
theorem Tk.ok {α : Type} {p : M α} {e : SE} {Q : α → SE → Prop} (h : Tk p e Q NX) : ∃ a e', p e = some (.ok a e') ∧ Q a e' := by
  have hU := @TkU.ok; (try rw [← Tk_is] at hU); (try rw [← Ts_is] at hU); (try rw [← Fr_is] at hU); (try rw [← Wh_is] at hU); (try rw [← Lr_is] at hU); (try rw [← Sq_is] at hU); (try rw [← Tryk_is] at hU)
  exact hU h
theorem Tk.of {α : Type} {p : M α} {e e' : SE} {a : α} {Q : α → SE → Prop} {X : PX} (h : p e = some (.ok a e')) (q : Q a e') : Tk p e Q X := by
  have hU := @TkU.of; (try rw [← Tk_is] at hU); (try rw [← Ts_is] at hU); (try rw [← Fr_is] at hU); (try rw [← Wh_is] at hU); (try rw [← Lr_is] at hU); (try rw [← Sq_is] at hU); (try rw [← Tryk_is] at hU)
  exact hU h q
section
variable {α β : Type} {e : SE} {X : PX} {Q : Val → SE → Prop} {QB : Bool → SE → Prop} {QL : List Val → SE → Prop} {QD : List D → SE → Prop} {QS : SOut → Prop} {p q r : M Val} {pa : M (List Val)}
theorem Tk_bind {p : M α} {f : α → M β} {Q : β → SE → Prop} : Tk (p.bind f) e Q X = Tk p e (fun a e1 => Tk (f a) e1 Q X) X := by
  have hU := @TkU_bind; (try rw [← Tk_is] at hU); (try rw [← Ts_is] at hU); (try rw [← Fr_is] at hU); (try rw [← Wh_is] at hU); (try rw [← Lr_is] at hU); (try rw [← Sq_is] at hU); (try rw [← Tryk_is] at hU)
  exact hU 
theorem Tk_pure {a : α} {Q : α → SE → Prop} : Tk (M.pure a) e Q X = Q a e := by
  have hU := @TkU_pure; (try rw [← Tk_is] at hU); (try rw [← Ts_is] at hU); (try rw [← Fr_is] at hU); (try rw [← Wh_is] at hU); (try rw [← Lr_is] at hU); (try rw [← Sq_is] at hU); (try rw [← Tryk_is] at hU)
  exact hU 
theorem Tk_none {Q : α → SE → Prop} : Tk (fun _ => none : M α) e Q X = False := by
  have hU := @TkU_none; (try rw [← Tk_is] at hU); (try rw [← Ts_is] at hU); (try rw [← Fr_is] at hU); (try rw [← Wh_is] at hU); (try rw [← Lr_is] at hU); (try rw [← Sq_is] at hU); (try rw [← Tryk_is] at hU)
  exact hU 
theorem Tk_obind {A : SE → Option β} {B : β → M α} {Q : α → SE → Prop} : Tk (fun env => (A env).bind fun d => B d env) e Q X = So (A e) fun d => Tk (B d) e Q X := by
  have hU := @TkU_obind; (try rw [← Tk_is] at hU); (try rw [← Ts_is] at hU); (try rw [← Fr_is] at hU); (try rw [← Wh_is] at hU); (try rw [← Lr_is] at hU); (try rw [← Sq_is] at hU); (try rw [← Tryk_is] at hU)
  exact hU 
theorem Tk_omap {A : SE → Option α} {Q : α → SE → Prop} : Tk (fun env => (A env).map fun v => .ok v env) e Q X = So (A e) fun v => Q v e := by
  have hU := @TkU_omap; (try rw [← Tk_is] at hU); (try rw [← Ts_is] at hU); (try rw [← Fr_is] at hU); (try rw [← Wh_is] at hU); (try rw [← Lr_is] at hU); (try rw [← Sq_is] at hU); (try rw [← Tryk_is] at hU)
  exact hU 
theorem Tk_oif {c : SE → Prop} [DecidablePred c] {A : M α} {Q : α → SE → Prop} : Tk (fun env => if c env then A env else none) e Q X = (c e ∧ Tk A e Q X) := by
  have hU := @TkU_oif; (try rw [← Tk_is] at hU); (try rw [← Ts_is] at hU); (try rw [← Fr_is] at hU); (try rw [← Wh_is] at hU); (try rw [← Lr_is] at hU); (try rw [← Sq_is] at hU); (try rw [← Tryk_is] at hU)
  exact hU 
theorem Ts_obind {A : SE → Option β} {B : β → SP} {Q : SOut → Prop} : Ts (fun env => (A env).bind fun d => B d env) e Q = So (A e) fun d => Ts (B d) e Q := by
  have hU := @TsU_obind; (try rw [← Tk_is] at hU); (try rw [← Ts_is] at hU); (try rw [← Fr_is] at hU); (try rw [← Wh_is] at hU); (try rw [← Lr_is] at hU); (try rw [← Sq_is] at hU); (try rw [← Tryk_is] at hU)
  exact hU 
theorem Ts_omap {A : SE → Option SE} {Q : SOut → Prop} : Ts (fun env => (A env).map .nx) e Q = So (A e) fun e2 => Q (.nx e2) := by
  have hU := @TsU_omap; (try rw [← Tk_is] at hU); (try rw [← Ts_is] at hU); (try rw [← Fr_is] at hU); (try rw [← Wh_is] at hU); (try rw [← Lr_is] at hU); (try rw [← Sq_is] at hU); (try rw [← Tryk_is] at hU)
  exact hU 
theorem Tk_opt {o : Option (Out α)} {Q : α → SE → Prop} : Tk (fun _ => o : M α) e Q X = So o fun r => Tk (fun _ => some r : M α) e Q X := by
  have hU := @TkU_opt; (try rw [← Tk_is] at hU); (try rw [← Ts_is] at hU); (try rw [← Fr_is] at hU); (try rw [← Wh_is] at hU); (try rw [← Lr_is] at hU); (try rw [← Sq_is] at hU); (try rw [← Tryk_is] at hU)
  exact hU 
theorem Tk_xc {d : D} : Tk (xc d) e Q X = Q (.fz d) e := by
  have hU := @TkU_xc; (try rw [← Tk_is] at hU); (try rw [← Ts_is] at hU); (try rw [← Fr_is] at hU); (try rw [← Wh_is] at hU); (try rw [← Lr_is] at hU); (try rw [← Sq_is] at hU); (try rw [← Tryk_is] at hU)
  exact hU 
theorem Tk_xv {i : Nat} : Tk (xv i) e Q X = So (e[i]?.bind id) fun b => Q (rdv i b) e := by
  have hU := @TkU_xv; (try rw [← Tk_is] at hU); (try rw [← Ts_is] at hU); (try rw [← Fr_is] at hU); (try rw [← Wh_is] at hU); (try rw [← Lr_is] at hU); (try rw [← Sq_is] at hU); (try rw [← Tryk_is] at hU)
  exact hU 
theorem Tk_xf {i : Nat} : Tk (xf i) e Q X = So (e[i]?.bind id) fun b => xfk i e Q b := by
  have hU := @TkU_xf; (try rw [← Tk_is] at hU); (try rw [← Ts_is] at hU); (try rw [← Fr_is] at hU); (try rw [← Wh_is] at hU); (try rw [← Lr_is] at hU); (try rw [← Sq_is] at hU); (try rw [← Tryk_is] at hU)
  exact hU 
theorem Tk_xm {i : Nat} : Tk (xm i) e Q X = So (e[i]?.bind id) fun b => xmk i e Q b := by
  have hU := @TkU_xm; (try rw [← Tk_is] at hU); (try rw [← Ts_is] at hU); (try rw [← Fr_is] at hU); (try rw [← Wh_is] at hU); (try rw [← Lr_is] at hU); (try rw [← Sq_is] at hU); (try rw [← Tryk_is] at hU)
  exact hU 
theorem Tk_frz : Tk (frz p) e Q X = Tk p e (fun v e1 => Q (frv v) e1) X := by
  have hU := @TkU_frz; (try rw [← Tk_is] at hU); (try rw [← Ts_is] at hU); (try rw [← Fr_is] at hU); (try rw [← Wh_is] at hU); (try rw [← Lr_is] at hU); (try rw [← Sq_is] at hU); (try rw [← Tryk_is] at hU)
  exact hU 
theorem Tk_x2 {g : D → D → Option Val} : Tk (x2 g p q) e Q X = Tk p e (fun a e1 => Tk q e1 (fun b e2 => So (deref e2 a) fun da => So (deref e2 b) fun db => So (g da db) fun v => Q v e2) X) X := by
  have hU := @TkU_x2; (try rw [← Tk_is] at hU); (try rw [← Ts_is] at hU); (try rw [← Fr_is] at hU); (try rw [← Wh_is] at hU); (try rw [← Lr_is] at hU); (try rw [← Sq_is] at hU); (try rw [← Tryk_is] at hU)
  exact hU 
theorem Tk_x1 {g : D → Option Val} : Tk (x1 g p) e Q X = Tk p e (fun a e1 => So (deref e1 a) fun da => So (g da) fun v => Q v e1) X := by
  have hU := @TkU_x1; (try rw [← Tk_is] at hU); (try rw [← Ts_is] at hU); (try rw [← Fr_is] at hU); (try rw [← Wh_is] at hU); (try rw [← Lr_is] at hU); (try rw [← Sq_is] at hU); (try rw [← Tryk_is] at hU)
  exact hU 
theorem Tk_bt : Tk (bt p) e QB X = Tk p e (fun v e1 => So (bov v) fun b => QB b e1) X := by
  have hU := @TkU_bt; (try rw [← Tk_is] at hU); (try rw [← Ts_is] at hU); (try rw [← Fr_is] at hU); (try rw [← Wh_is] at hU); (try rw [← Lr_is] at hU); (try rw [← Sq_is] at hU); (try rw [← Tryk_is] at hU)
  exact hU 
theorem Tk_bAnd {p q : M Bool} : Tk (bAnd p q) e QB X = Tk p e (fun b e1 => Bif b (Tk q e1 QB X) (QB false e1)) X := by
  have hU := @TkU_bAnd; (try rw [← Tk_is] at hU); (try rw [← Ts_is] at hU); (try rw [← Fr_is] at hU); (try rw [← Wh_is] at hU); (try rw [← Lr_is] at hU); (try rw [← Sq_is] at hU); (try rw [← Tryk_is] at hU)
  exact hU 
theorem Tk_bOr {p q : M Bool} : Tk (bOr p q) e QB X = Tk p e (fun b e1 => Bif b (QB true e1) (Tk q e1 QB X)) X := by
  have hU := @TkU_bOr; (try rw [← Tk_is] at hU); (try rw [← Ts_is] at hU); (try rw [← Fr_is] at hU); (try rw [← Wh_is] at hU); (try rw [← Lr_is] at hU); (try rw [← Sq_is] at hU); (try rw [← Tryk_is] at hU)
  exact hU 
theorem Tk_bNot {p : M Bool} : Tk (bNot p) e QB X = Tk p e (fun b e1 => QB (!b) e1) X := by
  have hU := @TkU_bNot; (try rw [← Tk_is] at hU); (try rw [← Ts_is] at hU); (try rw [← Fr_is] at hU); (try rw [← Wh_is] at hU); (try rw [← Lr_is] at hU); (try rw [← Sq_is] at hU); (try rw [← Tryk_is] at hU)
  exact hU 
theorem Tk_xAnd : Tk (xAnd p q) e Q X = Tk p e (fun v e1 => So (bov v) fun b => Bif b (Tk q e1 Q X) (Q (.fz (.bl false)) e1)) X := by
  have hU := @TkU_xAnd; (try rw [← Tk_is] at hU); (try rw [← Ts_is] at hU); (try rw [← Fr_is] at hU); (try rw [← Wh_is] at hU); (try rw [← Lr_is] at hU); (try rw [← Sq_is] at hU); (try rw [← Tryk_is] at hU)
  exact hU 
theorem Tk_xOr : Tk (xOr p q) e Q X = Tk p e (fun v e1 => So (bov v) fun b => Bif b (Q (.fz (.bl true)) e1) (Tk q e1 Q X)) X := by
  have hU := @TkU_xOr; (try rw [← Tk_is] at hU); (try rw [← Ts_is] at hU); (try rw [← Fr_is] at hU); (try rw [← Wh_is] at hU); (try rw [← Lr_is] at hU); (try rw [← Sq_is] at hU); (try rw [← Tryk_is] at hU)
  exact hU 
theorem Tk_xNot : Tk (xNot p) e Q X = Tk p e (fun v e1 => So (bov v) fun b => Q (.fz (.bl (!b))) e1) X := by
  have hU := @TkU_xNot; (try rw [← Tk_is] at hU); (try rw [← Ts_is] at hU); (try rw [← Fr_is] at hU); (try rw [← Wh_is] at hU); (try rw [← Lr_is] at hU); (try rw [← Sq_is] at hU); (try rw [← Tryk_is] at hU)
  exact hU 
theorem Tk_xIf {c : M Bool} : Tk (xIf c p q) e Q X = Tk c e (fun b e1 => Bif b (Tk p e1 Q X) (Tk q e1 Q X)) X := by
  have hU := @TkU_xIf; (try rw [← Tk_is] at hU); (try rw [← Ts_is] at hU); (try rw [← Fr_is] at hU); (try rw [← Wh_is] at hU); (try rw [← Lr_is] at hU); (try rw [← Sq_is] at hU); (try rw [← Tryk_is] at hU)
  exact hU 
theorem Tk_aNil : Tk aNil e QL X = QL [] e := by
  have hU := @TkU_aNil; (try rw [← Tk_is] at hU); (try rw [← Ts_is] at hU); (try rw [← Fr_is] at hU); (try rw [← Wh_is] at hU); (try rw [← Lr_is] at hU); (try rw [← Sq_is] at hU); (try rw [← Tryk_is] at hU)
  exact hU 
theorem Tk_aCons : Tk (aCons p pa) e QL X = Tk p e (fun a e1 => nfr a = true ∧ Tk pa e1 (fun r e2 => QL (a :: r) e2) X) X := by
  have hU := @TkU_aCons; (try rw [← Tk_is] at hU); (try rw [← Ts_is] at hU); (try rw [← Fr_is] at hU); (try rw [← Wh_is] at hU); (try rw [← Lr_is] at hU); (try rw [← Sq_is] at hU); (try rw [← Tryk_is] at hU)
  exact hU 
theorem Tk_xTup : Tk (xTup pa) e Q X = Tk pa e (fun vs e1 => So (fzs vs) fun ds => ds.length ≤ 100000 ∧ Q (.fz (.tup ds)) e1) X := by
  have hU := @TkU_xTup; (try rw [← Tk_is] at hU); (try rw [← Ts_is] at hU); (try rw [← Fr_is] at hU); (try rw [← Wh_is] at hU); (try rw [← Lr_is] at hU); (try rw [← Sq_is] at hU); (try rw [← Tryk_is] at hU)
  exact hU 
theorem Tk_xLst : Tk (xLst pa) e Q X = Tk pa e (fun vs e1 => So (fzs vs) fun ds => ds.length ≤ 100000 ∧ Q (.fr (.lst ds)) e1) X := by
  have hU := @TkU_xLst; (try rw [← Tk_is] at hU); (try rw [← Ts_is] at hU); (try rw [← Fr_is] at hU); (try rw [← Wh_is] at hU); (try rw [← Lr_is] at hU); (try rw [← Sq_is] at hU); (try rw [← Tryk_is] at hU)
  exact hU 
theorem Tk_xB {g : List D → Option Val} : Tk (xB g pa) e Q X = Tk pa e (fun vs e1 => So (derefs e1 vs) fun ds => So (g ds) fun v => Q v e1) X := by
  have hU := @TkU_xB; (try rw [← Tk_is] at hU); (try rw [← Ts_is] at hU); (try rw [← Fr_is] at hU); (try rw [← Wh_is] at hU); (try rw [← Lr_is] at hU); (try rw [← Sq_is] at hU); (try rw [← Tryk_is] at hU)
  exact hU 
theorem Tk_xSet {g : List D → Option Val} : Tk (xSet g p) e Q X = Tk p e (fun a e1 => So (deref e1 a) fun d => So (match d with | .lst ds => g ds | _ => none) fun v => Q v e1) X := by
  have hU := @TkU_xSet; (try rw [← Tk_is] at hU); (try rw [← Ts_is] at hU); (try rw [← Fr_is] at hU); (try rw [← Wh_is] at hU); (try rw [← Lr_is] at hU); (try rw [← Sq_is] at hU); (try rw [← Tryk_is] at hU)
  exact hU 
theorem Tk_oNone {QO : Option Int → SE → Prop} : Tk oNone e QO X = QO none e := by
  have hU := @TkU_oNone; (try rw [← Tk_is] at hU); (try rw [← Ts_is] at hU); (try rw [← Fr_is] at hU); (try rw [← Wh_is] at hU); (try rw [← Lr_is] at hU); (try rw [← Sq_is] at hU); (try rw [← Tryk_is] at hU)
  exact hU 
theorem Tk_oSome {QO : Option Int → SE → Prop} : Tk (oSome p) e QO X = Tk p e (fun v e1 => So (inv1 v) fun i => QO (some i) e1) X := by
  have hU := @TkU_oSome; (try rw [← Tk_is] at hU); (try rw [← Ts_is] at hU); (try rw [← Fr_is] at hU); (try rw [← Wh_is] at hU); (try rw [← Lr_is] at hU); (try rw [← Sq_is] at hU); (try rw [← Tryk_is] at hU)
  exact hU 
theorem Tk_xSl {g : D → Option Int → Option Int → Option Val} {l h : M (Option Int)} : Tk (xSl g p l h) e Q X = Tk p e (fun a e1 => Tk l e1 (fun lo e2 => Tk h e2 (fun hi e3 => So (deref e3 a) fun d => So (g d lo hi) fun v => Q v e3) X) X) X := by
  have hU := @TkU_xSl; (try rw [← Tk_is] at hU); (try rw [← Ts_is] at hU); (try rw [← Fr_is] at hU); (try rw [← Wh_is] at hU); (try rw [← Lr_is] at hU); (try rw [← Sq_is] at hU); (try rw [← Tryk_is] at hU)
  exact hU 
theorem Tk_xChain {g h : D → D → Option Val} : Tk (xChain g h p q r) e Q X = Tk p e (fun x e1 => Tk q e1 (fun y e2 => So (deref e2 x) fun dx => So (deref e2 y) fun dy => So (g dx dy) fun v => So (bov v) fun b =>
    Bif b (Tk r e2 (fun z e3 => So (deref e3 y) fun dy => So (deref e3 z) fun dz => So (h dy dz) fun v => Q v e3) X) (Q (.fz (.bl false)) e2)) X) X := by
  have hU := @TkU_xChain; (try rw [← Tk_is] at hU); (try rw [← Ts_is] at hU); (try rw [← Fr_is] at hU); (try rw [← Wh_is] at hU); (try rw [← Lr_is] at hU); (try rw [← Sq_is] at hU); (try rw [← Tryk_is] at hU)
  exact hU 
theorem Ts_sNil : Ts sNil e QS = QS (.nx e) := by
  have hU := @TsU_sNil; (try rw [← Tk_is] at hU); (try rw [← Ts_is] at hU); (try rw [← Fr_is] at hU); (try rw [← Wh_is] at hU); (try rw [← Lr_is] at hU); (try rw [← Sq_is] at hU); (try rw [← Tryk_is] at hU)
  exact hU 
theorem Ts_sBrk : Ts sBrk e QS = QS (.bk e) := by
  have hU := @TsU_sBrk; (try rw [← Tk_is] at hU); (try rw [← Ts_is] at hU); (try rw [← Fr_is] at hU); (try rw [← Wh_is] at hU); (try rw [← Lr_is] at hU); (try rw [← Sq_is] at hU); (try rw [← Tryk_is] at hU)
  exact hU 
theorem Ts_sCnt : Ts sCnt e QS = QS (.ct e) := by
  have hU := @TsU_sCnt; (try rw [← Tk_is] at hU); (try rw [← Ts_is] at hU); (try rw [← Fr_is] at hU); (try rw [← Wh_is] at hU); (try rw [← Lr_is] at hU); (try rw [← Sq_is] at hU); (try rw [← Tryk_is] at hU)
  exact hU 
theorem Ts_sSeq {s t : SP} : Ts (sSeq s t) e QS = Ts s e (Sq t QS) := by
  have hU := @TsU_sSeq; (try rw [← Tk_is] at hU); (try rw [← Ts_is] at hU); (try rw [← Fr_is] at hU); (try rw [← Wh_is] at hU); (try rw [← Lr_is] at hU); (try rw [← Sq_is] at hU); (try rw [← Tryk_is] at hU)
  exact hU 
theorem Ts_sWith {p : M α} {f : α → SP} : Ts (sWith p f) e QS = Tk p e (fun a e1 => Ts (f a) e1 QS) (fun c d e1 => QS (.exc c d e1)) := by
  have hU := @TsU_sWith; (try rw [← Tk_is] at hU); (try rw [← Ts_is] at hU); (try rw [← Fr_is] at hU); (try rw [← Wh_is] at hU); (try rw [← Lr_is] at hU); (try rw [← Sq_is] at hU); (try rw [← Tryk_is] at hU)
  exact hU 
theorem Ts_sDrop : Ts (sDrop p) e QS = Tk p e (fun _ e1 => QS (.nx e1)) (fun c d e1 => QS (.exc c d e1)) := by
  have hU := @TsU_sDrop; (try rw [← Tk_is] at hU); (try rw [← Ts_is] at hU); (try rw [← Fr_is] at hU); (try rw [← Wh_is] at hU); (try rw [← Lr_is] at hU); (try rw [← Sq_is] at hU); (try rw [← Tryk_is] at hU)
  exact hU 
theorem Ts_sRet : Ts (sRet p) e QS = Tk p e (fun v e1 => QS (.rt v e1)) (fun c d e1 => QS (.exc c d e1)) := by
  have hU := @TsU_sRet; (try rw [← Tk_is] at hU); (try rw [← Ts_is] at hU); (try rw [← Fr_is] at hU); (try rw [← Wh_is] at hU); (try rw [← Lr_is] at hU); (try rw [← Sq_is] at hU); (try rw [← Tryk_is] at hU)
  exact hU 
theorem Ts_sRetN : Ts sRetN e QS = QS (.rt (.fz .non) e) := by
  have hU := @TsU_sRetN; (try rw [← Tk_is] at hU); (try rw [← Ts_is] at hU); (try rw [← Fr_is] at hU); (try rw [← Wh_is] at hU); (try rw [← Lr_is] at hU); (try rw [← Sq_is] at hU); (try rw [← Tryk_is] at hU)
  exact hU 
theorem Ts_sIf {c : M Bool} {s t : SP} : Ts (sIf c s t) e QS = Tk c e (fun b e1 => Bif b (Ts s e1 QS) (Ts t e1 QS)) (fun c d e1 => QS (.exc c d e1)) := by
  have hU := @TsU_sIf; (try rw [← Tk_is] at hU); (try rw [← Ts_is] at hU); (try rw [← Fr_is] at hU); (try rw [← Wh_is] at hU); (try rw [← Lr_is] at hU); (try rw [← Sq_is] at hU); (try rw [← Tryk_is] at hU)
  exact hU 
theorem Ts_sSet {i : Nat} : Ts (sSet i p) e QS = Tk p e (fun v e1 => So (stow i v e1) fun e2 => QS (.nx e2)) (fun c d e1 => QS (.exc c d e1)) := by
  have hU := @TsU_sSet; (try rw [← Tk_is] at hU); (try rw [← Ts_is] at hU); (try rw [← Fr_is] at hU); (try rw [← Wh_is] at hU); (try rw [← Lr_is] at hU); (try rw [← Sq_is] at hU); (try rw [← Tryk_is] at hU)
  exact hU 
theorem Ts_sAsg {t : TgD} : Ts (sAsg p t) e QS = Tk p e (fun v e1 => So (fzo v) fun d => So (t d e1) fun e2 => QS (.nx e2)) (fun c d e1 => QS (.exc c d e1)) := by
  have hU := @TsU_sAsg; (try rw [← Tk_is] at hU); (try rw [← Ts_is] at hU); (try rw [← Fr_is] at hU); (try rw [← Wh_is] at hU); (try rw [← Lr_is] at hU); (try rw [← Sq_is] at hU); (try rw [← Tryk_is] at hU)
  exact hU 
theorem Ts_sPar {i j : Nat} : Ts (sPar i j p q) e QS = Tk p e (fun v e1 => Tk q e1 (fun u e2 => So (stow i v e2) fun e3 => So (stow j u e3) fun e4 => QS (.nx e4)) (fun c d e1 => QS (.exc c d e1))) (fun c d e1 => QS (.exc c d e1)) := by
  have hU := @TsU_sPar; (try rw [← Tk_is] at hU); (try rw [← Ts_is] at hU); (try rw [← Fr_is] at hU); (try rw [← Wh_is] at hU); (try rw [← Lr_is] at hU); (try rw [← Sq_is] at hU); (try rw [← Tryk_is] at hU)
  exact hU 
theorem Ts_sPar3 {i j l : Nat} : Ts (sPar3 i j l p q r) e QS = Tk p e (fun v e1 => Tk q e1 (fun u e2 => Tk r e2 (fun w e2 => So (stow i v e2) fun e3 => So (stow j u e3) fun e4 => So (stow l w e4) fun e5 => QS (.nx e5)) (fun c d e1 => QS (.exc c d e1))) (fun c d e1 => QS (.exc c d e1))) (fun c d e1 => QS (.exc c d e1)) := by
  have hU := @TsU_sPar3; (try rw [← Tk_is] at hU); (try rw [← Ts_is] at hU); (try rw [← Fr_is] at hU); (try rw [← Wh_is] at hU); (try rw [← Lr_is] at hU); (try rw [← Sq_is] at hU); (try rw [← Tryk_is] at hU)
  exact hU 
theorem Ts_sFor {it : M (List D)} {t : TgD} {b : SP} : Ts (sFor it t b) e QS = Tk it e (fun ds e1 => Fr t b ds e1 QS) (fun c d e1 => QS (.exc c d e1)) := by
  have hU := @TsU_sFor; (try rw [← Tk_is] at hU); (try rw [← Ts_is] at hU); (try rw [← Fr_is] at hU); (try rw [← Wh_is] at hU); (try rw [← Lr_is] at hU); (try rw [← Sq_is] at hU); (try rw [← Tryk_is] at hU)
  exact hU 
theorem Ts_sWhile {n : Nat} {c : M Bool} {b : SP} : Ts (sWhile n c b) e QS = Wh c b n e QS := by
  have hU := @TsU_sWhile; (try rw [← Tk_is] at hU); (try rw [← Ts_is] at hU); (try rw [← Fr_is] at hU); (try rw [← Wh_is] at hU); (try rw [← Lr_is] at hU); (try rw [← Sq_is] at hU); (try rw [← Tryk_is] at hU)
  exact hU 
theorem Ts_sRaise {c : Str} : Ts (sRaise c p) e QS = Tk p e (fun v e1 => So (fzo v) fun d => QS (.exc c d e1)) (fun c d e1 => QS (.exc c d e1)) := by
  have hU := @TsU_sRaise; (try rw [← Tk_is] at hU); (try rw [← Ts_is] at hU); (try rw [← Fr_is] at hU); (try rw [← Wh_is] at hU); (try rw [← Lr_is] at hU); (try rw [← Sq_is] at hU); (try rw [← Tryk_is] at hU)
  exact hU 
end
section
variable {α β : Type} {e : SE} {X : PX} {Q : Val → SE → Prop} {QB : Bool → SE → Prop} {QL : List Val → SE → Prop} {QD : List D → SE → Prop} {QS : SOut → Prop} {p q r : M Val} {pa : M (List Val)}
theorem Tk_itD : Tk (itD p) e QD X = Tk p e (fun v e1 => So (itv v) fun ds => QD ds e1) X := by
  have hU := @TkU_itD; (try rw [← Tk_is] at hU); (try rw [← Ts_is] at hU); (try rw [← Fr_is] at hU); (try rw [← Wh_is] at hU); (try rw [← Lr_is] at hU); (try rw [← Sq_is] at hU); (try rw [← Tryk_is] at hU)
  exact hU 
theorem Tk_itR1 : Tk (itR1 pa) e QD X = Tk pa e (fun vs e1 => So (intsV vs) fun ns => So (rng1 ns) fun ds => QD ds e1) X := by
  have hU := @TkU_itR1; (try rw [← Tk_is] at hU); (try rw [← Ts_is] at hU); (try rw [← Fr_is] at hU); (try rw [← Wh_is] at hU); (try rw [← Lr_is] at hU); (try rw [← Sq_is] at hU); (try rw [← Tryk_is] at hU)
  exact hU 
theorem Tk_itR2 : Tk (itR2 pa) e QD X = Tk pa e (fun vs e1 => So (intsV vs) fun ns => So (rng2 ns) fun ds => QD ds e1) X := by
  have hU := @TkU_itR2; (try rw [← Tk_is] at hU); (try rw [← Ts_is] at hU); (try rw [← Fr_is] at hU); (try rw [← Wh_is] at hU); (try rw [← Lr_is] at hU); (try rw [← Sq_is] at hU); (try rw [← Tryk_is] at hU)
  exact hU 
theorem Tk_itE : Tk (itE pa) e QD X = Tk pa e (fun vs e1 => So (enuv vs) fun ds => QD ds e1) X := by
  have hU := @TkU_itE; (try rw [← Tk_is] at hU); (try rw [← Ts_is] at hU); (try rw [← Fr_is] at hU); (try rw [← Wh_is] at hU); (try rw [← Lr_is] at hU); (try rw [← Sq_is] at hU); (try rw [← Tryk_is] at hU)
  exact hU 
theorem Tk_itZ : Tk (itZ pa) e QD X = Tk pa e (fun vs e1 => So (zipv vs) fun ds => QD ds e1) X := by
  have hU := @TkU_itZ; (try rw [← Tk_is] at hU); (try rw [← Ts_is] at hU); (try rw [← Fr_is] at hU); (try rw [← Wh_is] at hU); (try rw [← Lr_is] at hU); (try rw [← Sq_is] at hU); (try rw [← Tryk_is] at hU)
  exact hU 
theorem Tk_callE {n : Nat} {F : M Val} {l : List Val} : Tk (callE n F l) e Q X = ((l.length = n ∧ (bors l).Nodup) ∧ So (argsE e l) fun e0 => Tk F e0 (ncal e l Q) (xcal e l X)) := by
  have hU := @TkU_callE; (try rw [← Tk_is] at hU); (try rw [← Ts_is] at hU); (try rw [← Fr_is] at hU); (try rw [← Wh_is] at hU); (try rw [← Lr_is] at hU); (try rw [← Sq_is] at hU); (try rw [← Tryk_is] at hU)
  exact hU 
theorem Tk_xdef {n : Nat} {F : M Val} : Tk (xdef n F pa) e Q X = Tk pa e (fun l e1 => (l.length = n ∧ (bors l).Nodup) ∧ So (argsE e1 l) fun e0 => Tk F e0 (ncal e1 l Q) (xcal e1 l X)) X := by
  have hU := @TkU_xdef; (try rw [← Tk_is] at hU); (try rw [← Ts_is] at hU); (try rw [← Fr_is] at hU); (try rw [← Wh_is] at hU); (try rw [← Lr_is] at hU); (try rw [← Sq_is] at hU); (try rw [← Tryk_is] at hU)
  exact hU 
theorem Tk_xNam {m n : Nat} {π : List Nat} {F : M Val} : Tk (xNam m n π F pa) e Q X = Tk pa e (fun z e1 => z.length = m ∧ Tk (callE n F (pick π z)) e1 Q X) X := by
  have hU := @TkU_xNam; (try rw [← Tk_is] at hU); (try rw [← Ts_is] at hU); (try rw [← Fr_is] at hU); (try rw [← Wh_is] at hU); (try rw [← Lr_is] at hU); (try rw [← Sq_is] at hU); (try rw [← Tryk_is] at hU)
  exact hU 
theorem Tk_xMk {c : Str} {n : Nat} {F : M Val} : Tk (xMk c n F pa) e Q X = Tk pa e (fun l e1 => (l.length + 1 = n ∧ (bors (.bor e1.length :: l)).Nodup) ∧
    So (argsE (e1 ++ [some (.own (.ins c []))]) (.bor e1.length :: l)) fun e0 => Tk F e0 (nmk (e1 ++ [some (.own (.ins c []))]) (.bor e1.length :: l) Q) (xmkx (e1 ++ [some (.own (.ins c []))]) (.bor e1.length :: l) X)) X := by
  have hU := @TkU_xMk; (try rw [← Tk_is] at hU); (try rw [← Ts_is] at hU); (try rw [← Fr_is] at hU); (try rw [← Wh_is] at hU); (try rw [← Lr_is] at hU); (try rw [← Sq_is] at hU); (try rw [← Tryk_is] at hU)
  exact hU 
theorem Tk_aRecv {c m : Str} : Tk (aRecv c m p pa) e QL X = Tk p e (fun v e1 => nfr v = true ∧ isIns c m e1 v = true ∧ Tk pa e1 (fun l e2 => QL (v :: l) e2) X) X := by
  have hU := @TkU_aRecv; (try rw [← Tk_is] at hU); (try rw [← Ts_is] at hU); (try rw [← Fr_is] at hU); (try rw [← Wh_is] at hU); (try rw [← Lr_is] at hU); (try rw [← Sq_is] at hU); (try rw [← Tryk_is] at hU)
  exact hU 
theorem Tk_xMeth {c m : Str} {n : Nat} {F : M Val} : Tk (xMeth c m n F p pa) e Q X = Tk (xdef n F (aRecv c m p pa)) e Q X := by
  have hU := @TkU_xMeth; (try rw [← Tk_is] at hU); (try rw [← Ts_is] at hU); (try rw [← Fr_is] at hU); (try rw [← Wh_is] at hU); (try rw [← Lr_is] at hU); (try rw [← Sq_is] at hU); (try rw [← Tryk_is] at hU)
  exact hU 
theorem Tk_nox : Tk (nox p) e Q X = Tk p e Q NX := by
  have hU := @TkU_nox; (try rw [← Tk_is] at hU); (try rw [← Ts_is] at hU); (try rw [← Fr_is] at hU); (try rw [← Wh_is] at hU); (try rw [← Lr_is] at hU); (try rw [← Sq_is] at hU); (try rw [← Tryk_is] at hU)
  exact hU 
theorem Tk_xProp {c m : Str} {F : M Val} : Tk (xProp c m F p) e Q X = Tk p e (fun v e1 => isIns c "" e1 v = true ∧ Tk (callE 1 F [v]) e1 Q NX) X := by
  have hU := @TkU_xProp; (try rw [← Tk_is] at hU); (try rw [← Ts_is] at hU); (try rw [← Fr_is] at hU); (try rw [← Wh_is] at hU); (try rw [← Lr_is] at hU); (try rw [← Sq_is] at hU); (try rw [← Tryk_is] at hU)
  exact hU 
theorem Tk_xFld {c m : Str} : Tk (xFld c m p) e Q X = Tk p e (fun v e1 => So (deref e1 v) fun d => So (fldv c m d) fun u => Q (.fz u) e1) X := by
  have hU := @TkU_xFld; (try rw [← Tk_is] at hU); (try rw [← Ts_is] at hU); (try rw [← Fr_is] at hU); (try rw [← Wh_is] at hU); (try rw [← Lr_is] at hU); (try rw [← Sq_is] at hU); (try rw [← Tryk_is] at hU)
  exact hU 
theorem Tk_two {c : Str} {F : M Val} {alt : D → D → Option Val} : Tk (two c F alt p q) e Q X = Tk p e (fun v e1 => Tk q e1 (fun u e2 => Bif (isIns c "" e2 v && isIns c "" e2 u) (Tk (callE 2 F [v, u]) e2 Q NX) (So (deref e2 v) fun da => So (deref e2 u) fun db => So (alt da db) fun w => Q w e2)) X) X := by
  have hU := @TkU_two; (try rw [← Tk_is] at hU); (try rw [← Ts_is] at hU); (try rw [← Fr_is] at hU); (try rw [← Wh_is] at hU); (try rw [← Lr_is] at hU); (try rw [← Sq_is] at hU); (try rw [← Tryk_is] at hU)
  exact hU 
theorem Tk_lenO {c : Str} {F : M Val} {alt : List D → Option Val} : Tk (lenO c F alt pa) e Q X = Tk pa e (fun l e1 => So (one1 l) fun v => Bif (isIns c "" e1 v) (Tk (callE 1 F [v]) e1 (fun w e2 => So (natv w) fun n => Q (.fz (.int n)) e2) NX) (So (derefs e1 l) fun ds => So (alt ds) fun w => Q w e1)) X := by
  have hU := @TkU_lenO; (try rw [← Tk_is] at hU); (try rw [← Ts_is] at hU); (try rw [← Fr_is] at hU); (try rw [← Wh_is] at hU); (try rw [← Lr_is] at hU); (try rw [← Sq_is] at hU); (try rw [← Tryk_is] at hU)
  exact hU 
theorem Tk_xOpO {c : Str} {F : M Val} : Tk (xOpO c F p q) e Q X = Tk p e (fun v e1 => Tk q e1 (fun u e2 => (isIns c "" e2 v && isIns c "" e2 u) = true ∧ Tk (callE 2 F [v, u]) e2 Q X) X) X := by
  have hU := @TkU_xOpO; (try rw [← Tk_is] at hU); (try rw [← Ts_is] at hU); (try rw [← Fr_is] at hU); (try rw [← Wh_is] at hU); (try rw [← Lr_is] at hU); (try rw [← Sq_is] at hU); (try rw [← Tryk_is] at hU)
  exact hU 
theorem Tk_xIsI {tb : Str → Option Bool} : Tk (xIsI tb p) e Q X = Tk p e (fun v e1 => So (deref e1 v) fun d => So (isD2 tb d) fun b => Q (.fz (.bl b)) e1) X := by
  have hU := @TkU_xIsI; (try rw [← Tk_is] at hU); (try rw [← Ts_is] at hU); (try rw [← Fr_is] at hU); (try rw [← Wh_is] at hU); (try rw [← Lr_is] at hU); (try rw [← Sq_is] at hU); (try rw [← Tryk_is] at hU)
  exact hU 
theorem Tk_xDn {t : Nat} : Tk (xDn t) e Q X = Q (.fr (.dct t [])) e := by
  have hU := @TkU_xDn; (try rw [← Tk_is] at hU); (try rw [← Ts_is] at hU); (try rw [← Fr_is] at hU); (try rw [← Wh_is] at hU); (try rw [← Lr_is] at hU); (try rw [← Sq_is] at hU); (try rw [← Tryk_is] at hU)
  exact hU 
theorem Tk_xDisp1 : Tk (xDisp1 p q) e Q X = Tk p e (fun a e1 => So (fzo a) fun kd => Tk q e1 (fun b e2 => So (fzo b) fun d => So (keyD kd) fun _ => Q (.fr (.dct 0 [(kd, d)])) e2) X) X := by
  have hU := @TkU_xDisp1; (try rw [← Tk_is] at hU); (try rw [← Ts_is] at hU); (try rw [← Fr_is] at hU); (try rw [← Wh_is] at hU); (try rw [← Lr_is] at hU); (try rw [← Sq_is] at hU); (try rw [← Tryk_is] at hU)
  exact hU 
theorem Tk_xJoin : Tk (xJoin p q) e Q X = Tk p e (fun v e1 => So (match v with | .fz (.str s) => some s | _ => none) fun s => Tk q e1 (fun b e2 => So (deref e2 b) fun db => So (joinD (.str s) db) fun v => Q v e2) X) X := by
  have hU := @TkU_xJoin; (try rw [← Tk_is] at hU); (try rw [← Ts_is] at hU); (try rw [← Fr_is] at hU); (try rw [← Wh_is] at hU); (try rw [← Lr_is] at hU); (try rw [← Sq_is] at hU); (try rw [← Tryk_is] at hU)
  exact hU 
theorem Tk_xEv : Tk xEv e Q X = So (ghostD e) fun d => Q (.fz d) e := by
  have hU := @TkU_xEv; (try rw [← Tk_is] at hU); (try rw [← Ts_is] at hU); (try rw [← Fr_is] at hU); (try rw [← Wh_is] at hU); (try rw [← Lr_is] at hU); (try rw [← Sq_is] at hU); (try rw [← Tryk_is] at hU)
  exact hU 
theorem Tk_xIsE {b : Bool} : Tk (xIsE b) e Q X = So (ghostD e) fun _ => Q (.fz (.bl b)) e := by
  have hU := @TkU_xIsE; (try rw [← Tk_is] at hU); (try rw [← Ts_is] at hU); (try rw [← Fr_is] at hU); (try rw [← Wh_is] at hU); (try rw [← Lr_is] at hU); (try rw [← Sq_is] at hU); (try rw [← Tryk_is] at hU)
  exact hU 
theorem Tk_bYes : Tk bYes e QB X = QB true e := by
  have hU := @TkU_bYes; (try rw [← Tk_is] at hU); (try rw [← Ts_is] at hU); (try rw [← Fr_is] at hU); (try rw [← Wh_is] at hU); (try rw [← Lr_is] at hU); (try rw [← Sq_is] at hU); (try rw [← Tryk_is] at hU)
  exact hU 
theorem Tk_xMut {i : Nat} {g : List D → List D → Option (List D × D)} : Tk (xMut i g pa) e Q X = So (ownL e i) fun _ => Tk pa e (fun vs e1 => So (ownL e1 i) fun ds => So (fzs vs) fun as => So (g ds as) fun r => Q (.fz r.2) (putE e1 i (.lst r.1))) X := by
  have hU := @TkU_xMut; (try rw [← Tk_is] at hU); (try rw [← Ts_is] at hU); (try rw [← Fr_is] at hU); (try rw [← Wh_is] at hU); (try rw [← Lr_is] at hU); (try rw [← Sq_is] at hU); (try rw [← Tryk_is] at hU)
  exact hU 
theorem Ts_stU {i : Nat} {d : D} {k : Val} : Ts (stU i d k) e QS = Stu i d k e fun e2 => QS (.nx e2) := by
  have hU := @TsU_stU; (try rw [← Tk_is] at hU); (try rw [← Ts_is] at hU); (try rw [← Fr_is] at hU); (try rw [← Wh_is] at hU); (try rw [← Lr_is] at hU); (try rw [← Sq_is] at hU); (try rw [← Tryk_is] at hU)
  exact hU 
theorem Ts_sStU {i : Nat} : Ts (sStU i p q) e QS = Tk p e (fun v e1 => So (fzo v) fun d => owE i e1 = true ∧ Tk q e1 (fun k e2 => Stu i d k e2 fun e3 => QS (.nx e3)) (fun c d e1 => QS (.exc c d e1))) (fun c d e1 => QS (.exc c d e1)) := by
  have hU := @TsU_sStU; (try rw [← Tk_is] at hU); (try rw [← Ts_is] at hU); (try rw [← Fr_is] at hU); (try rw [← Wh_is] at hU); (try rw [← Lr_is] at hU); (try rw [← Sq_is] at hU); (try rw [← Tryk_is] at hU)
  exact hU 
theorem Ts_sFldE {i : Nat} {c m : Str} : Ts (sFldE i c m p) e QS = Tk p e (fun v e1 => So (fzo v) fun d => So (e1[i]?.bind id) fun b => fldk i c m d e1 (fun e2 => QS (.nx e2)) b) (fun c d e1 => QS (.exc c d e1)) := by
  have hU := @TsU_sFldE; (try rw [← Tk_is] at hU); (try rw [← Ts_is] at hU); (try rw [← Fr_is] at hU); (try rw [← Wh_is] at hU); (try rw [← Lr_is] at hU); (try rw [← Sq_is] at hU); (try rw [← Tryk_is] at hU)
  exact hU 
theorem Ts_sTry {i : Nat} {catches : Str → Option Bool} {s : SP} {suite : Str → SP} : Ts (sTry i catches s suite) e QS = Ts s e (Tryk i catches suite QS) := by
  have hU := @TsU_sTry; (try rw [← Tk_is] at hU); (try rw [← Ts_is] at hU); (try rw [← Fr_is] at hU); (try rw [← Wh_is] at hU); (try rw [← Lr_is] at hU); (try rw [← Sq_is] at hU); (try rw [← Tryk_is] at hU)
  exact hU 
theorem Ts_sSetE {j : Nat} : Ts (sSetE j p) e QS = Tk p e (fun v e1 => j + 1 < e1.length ∧ So (stow j v e1) fun e2 => QS (.nx e2)) (fun c d e1 => QS (.exc c d e1)) := by
  have hU := @TsU_sSetE; (try rw [← Tk_is] at hU); (try rw [← Ts_is] at hU); (try rw [← Fr_is] at hU); (try rw [← Wh_is] at hU); (try rw [← Lr_is] at hU); (try rw [← Sq_is] at hU); (try rw [← Tryk_is] at hU)
  exact hU 
theorem Tk_semF {n N : Nat} {P : SP} : Tk (semF n N P) e Q X = (e.length = n ∧ Ts P (e ++ List.replicate (N - n) none) (endk e Q X)) := by
  have hU := @TkU_semF; (try rw [← Tk_is] at hU); (try rw [← Ts_is] at hU); (try rw [← Fr_is] at hU); (try rw [← Wh_is] at hU); (try rw [← Lr_is] at hU); (try rw [← Sq_is] at hU); (try rw [← Tryk_is] at hU)
  exact hU 
end
section
variable {α : Type} {e : SE} {t : TgD} {b : SP} {enc : α → D} {Q : SOut → Prop}
theorem Fr.inv (xs : List α) (I : List α → SE → Prop) (h0 : I [] e) (step : ∀ pre x post e, xs = pre ++ x :: post → I pre e → Tg t (enc x) e fun e1 => Ts b e1 (turn (I (pre ++ [x])) Q)) (hf : ∀ e, I xs e → Q (.nx e)) : Fr t b (xs.map enc) e Q := by
  have hU := @FrU.inv; (try rw [← Tk_is] at hU); (try rw [← Ts_is] at hU); (try rw [← Fr_is] at hU); (try rw [← Wh_is] at hU); (try rw [← Lr_is] at hU); (try rw [← Sq_is] at hU); (try rw [← Tryk_is] at hU)
  exact hU xs I h0 step hf
theorem Wh.inv {c : M Bool} {n m : Nat} (I : Nat → SE → Prop) (h0 : I m e) (hn : m < n) (step : ∀ m e, I m e → Tk c e (fun x e1 => Bif x (Ts b e1 (turn (fun e2 => ∃ m', m' < m ∧ I m' e2) Q)) (Q (.nx e1))) (fun x d e1 => Q (.exc x d e1))) : Wh c b n e Q := by
  have hU := @WhU.inv; (try rw [← Tk_is] at hU); (try rw [← Ts_is] at hU); (try rw [← Fr_is] at hU); (try rw [← Wh_is] at hU); (try rw [← Lr_is] at hU); (try rw [← Sq_is] at hU); (try rw [← Tryk_is] at hU)
  exact hU I h0 hn step
theorem Tk_xLc {it : M (List D)} {vs : List Nat} {t : TgD} {c : M Bool} {el : M Val} {Q : Val → SE → Prop} {X : PX} : Tk (xLc it vs t c el) e Q X = Tk it e (fun ds e1 => ds.length ≤ 50000 ∧ Lr vs t c el ds [] e1 Q) X := by
  have hU := @TkU_xLc; (try rw [← Tk_is] at hU); (try rw [← Ts_is] at hU); (try rw [← Fr_is] at hU); (try rw [← Wh_is] at hU); (try rw [← Lr_is] at hU); (try rw [← Sq_is] at hU); (try rw [← Tryk_is] at hU)
  exact hU 
theorem Lr.inv {vs : List Nat} {c : M Bool} {el : M Val} {Q : Val → SE → Prop} (xs : List α) (I : List α → List D → SE → Prop) (h0 : I [] [] e)
    (step : ∀ pre x post acc e, xs = pre ++ x :: post → I pre acc e → okV e vs = true ∧ Tg t (enc x) (wipeE e vs) fun e1 => Tk c e1 (fun b e2 => Bif b (Tk el e2 (fun v e3 => So (fzo v) fun y => I (pre ++ [x]) (acc ++ [y]) (restE e e3 vs)) NX) (I (pre ++ [x]) acc (restE e e2 vs))) NX)
    (hf : ∀ acc e, I xs acc e → Q (.fr (.lst acc)) e) : Lr vs t c el (xs.map enc) [] e Q := by
  have hU := @LrU.inv; (try rw [← Tk_is] at hU); (try rw [← Ts_is] at hU); (try rw [← Fr_is] at hU); (try rw [← Wh_is] at hU); (try rw [← Lr_is] at hU); (try rw [← Sq_is] at hU); (try rw [← Tryk_is] at hU)
  exact hU xs I h0 step hf
theorem Lr.map {vs : List Nat} {c : M Bool} {el : M Val} {Q : Val → SE → Prop} (xs : List α) (pr : α → Bool) (g : α → D)
    (step : ∀ x ∈ xs, okV e vs = true ∧ Tg t (enc x) (wipeE e vs) fun e1 => Tk c e1 (fun b e2 => b = pr x ∧ Bif b (Tk el e2 (fun v e3 => v = .fz (g x) ∧ restE e e3 vs = e) NX) (restE e e2 vs = e)) NX)
    (hf : Q (.fr (.lst ((xs.filter pr).map g))) e) : Lr vs t c el (xs.map enc) [] e Q := by
  have hU := @LrU.map; (try rw [← Tk_is] at hU); (try rw [← Ts_is] at hU); (try rw [← Fr_is] at hU); (try rw [← Wh_is] at hU); (try rw [← Lr_is] at hU); (try rw [← Sq_is] at hU); (try rw [← Tryk_is] at hU)
  exact hU xs pr g step hf
end
end VE
namespace VE
open PySem PySem.Spec PyProof.Rows L2
mutual
def pl : D → Bool
  | .non => true
  | .int _ => true
  | .str s => PyData.strOk s
  | .tup ds => pls ds
  | .lst ds => pls ds
  | _ => false
def pls : List D → Bool
  | [] => true
  | d :: ds => pl d && pls ds
end
mutual
def dpt : D → Nat
  | .tup ds => dpts ds + 1
  | .lst ds => dpts ds + 1
  | _ => 0
def dpts : List D → Nat
  | [] => 0
  | d :: ds => max (dpt d) (dpts ds)
end
mutual
theorem pl_py : ∀ d : D, pl d = true → ∃ p, toPy d = some p ∧ p.canLay0 = true ∧ p.depth = dpt d
  | .non, _ => ⟨.none, by simp only [toPy], by simp only [PyData.canLay0], by simp only [PyData.depth, dpt]⟩
  | .int i, _ => ⟨.int i, by simp only [toPy], by simp only [PyData.canLay0], by simp only [PyData.depth, dpt]⟩
  | .str s, h => ⟨.str s, by simp only [toPy], by simpa only [PyData.canLay0, pl] using h, by simp only [PyData.depth, dpt]⟩
  | .tup ds, h => by
    obtain ⟨ps, h1, h2, h3⟩ := pls_py ds (by simpa only [pl] using h)
    exact ⟨.tuple ps, by simp only [toPy, h1, Option.map_some], by simp only [PyData.canLay0, h2], by simp only [PyData.depth, dpt, h3]⟩
  | .lst ds, h => by
    obtain ⟨ps, h1, h2, h3⟩ := pls_py ds (by simpa only [pl] using h)
    exact ⟨.list ps, by simp only [toPy, h1, Option.map_some], by simp only [PyData.canLay0, h2], by simp only [PyData.depth, dpt, h3]⟩
  | .bl _, h => by simp only [pl] at h; cases h
  | .scr _, h => by simp only [pl] at h; cases h
  | .dct _ _, h => by simp only [pl] at h; cases h
  | .ins _ _, h => by simp only [pl] at h; cases h
  | .box _, h => by simp only [pl] at h; cases h
theorem pls_py : ∀ ds : List D, pls ds = true → ∃ ps, toPys ds = some ps ∧ PyData.canLayAll0 ps = true ∧ PyData.depthAll ps = dpts ds
  | [], _ => ⟨[], by simp only [toPys], by simp only [PyData.canLayAll0], by simp only [PyData.depthAll, dpts]⟩
  | d :: ds, h => by
    simp only [pls, Bool.and_eq_true] at h
    obtain ⟨p, h1, h2, h3⟩ := pl_py d h.1
    obtain ⟨ps, h4, h5, h6⟩ := pls_py ds h.2
    exact ⟨p :: ps, by simp only [toPys, h1, h4, Option.bind_some, Option.map_some], by simp only [PyData.canLayAll0, h2, h5, Bool.and_true], by simp only [PyData.depthAll, dpts, h3, h6]⟩
end
mutual
theorem pl_eqv : ∀ (d e : D) (p q : PyData), pl d = true → pl e = true → toPy d = some p → toPy e = some q → (PyData.eqv p q = true ↔ d = e)
  | .non, e, p, q, h1, h2, h3, h4 => by
    simp only [toPy] at h3; cases h3
    cases e <;> simp only [pl] at h2 <;> (try cases h2) <;> simp only [toPy] at h4 <;> (try cases h4) <;> (try (obtain ⟨r, _, rfl⟩ := Option.map_eq_some_iff.mp h4)) <;> simp [PyData.eqv]
  | .int i, e, p, q, h1, h2, h3, h4 => by
    simp only [toPy] at h3; cases h3
    cases e <;> simp only [pl] at h2 <;> (try cases h2) <;> simp only [toPy] at h4 <;> (try cases h4) <;> (try (obtain ⟨r, _, rfl⟩ := Option.map_eq_some_iff.mp h4)) <;> simp [PyData.eqv]
  | .str i, e, p, q, h1, h2, h3, h4 => by
    simp only [toPy] at h3; cases h3
    cases e <;> simp only [pl] at h2 <;> (try cases h2) <;> simp only [toPy] at h4 <;> (try cases h4) <;> (try (obtain ⟨r, _, rfl⟩ := Option.map_eq_some_iff.mp h4)) <;> simp [PyData.eqv]
  | .tup ds, e, p, q, h1, h2, h3, h4 => by
    simp only [toPy] at h3
    obtain ⟨ps, h5, rfl⟩ := Option.map_eq_some_iff.mp h3
    simp only [pl] at h1
    cases e <;> simp only [pl] at h2 <;> (try cases h2) <;> simp only [toPy] at h4 <;> (try cases h4) <;> (try (obtain ⟨r, h6, rfl⟩ := Option.map_eq_some_iff.mp h4)) <;> simp only [PyData.eqv] <;> (try simp)
    exact pls_eqv _ _ _ _ h1 h2 h5 h6
  | .lst ds, e, p, q, h1, h2, h3, h4 => by
    simp only [toPy] at h3
    obtain ⟨ps, h5, rfl⟩ := Option.map_eq_some_iff.mp h3
    simp only [pl] at h1
    cases e <;> simp only [pl] at h2 <;> (try cases h2) <;> simp only [toPy] at h4 <;> (try cases h4) <;> (try (obtain ⟨r, h6, rfl⟩ := Option.map_eq_some_iff.mp h4)) <;> simp only [PyData.eqv] <;> (try simp)
    exact pls_eqv _ _ _ _ h1 h2 h5 h6
  | .bl _, _, _, _, h, _, _, _ => by simp only [pl] at h; cases h
  | .scr _, _, _, _, h, _, _, _ => by simp only [pl] at h; cases h
  | .dct _ _, _, _, _, h, _, _, _ => by simp only [pl] at h; cases h
  | .ins _ _, _, _, _, h, _, _, _ => by simp only [pl] at h; cases h
  | .box _, _, _, _, h, _, _, _ => by simp only [pl] at h; cases h
theorem pls_eqv : ∀ (d e : List D) (p q : List PyData), pls d = true → pls e = true → toPys d = some p → toPys e = some q → (PyData.eqvAll p q = true ↔ d = e)
  | [], [], p, q, _, _, h3, h4 => by simp only [toPys] at h3 h4; cases h3; cases h4; simp [PyData.eqvAll]
  | [], e :: es, p, q, _, _, h3, h4 => by
    simp only [toPys] at h3 h4; cases h3
    obtain ⟨x, _, h4⟩ := Option.bind_eq_some_iff.mp h4
    obtain ⟨r, _, rfl⟩ := Option.map_eq_some_iff.mp h4
    simp [PyData.eqvAll]
  | d :: ds, [], p, q, _, _, h3, h4 => by
    simp only [toPys] at h3 h4; cases h4
    obtain ⟨x, _, h4⟩ := Option.bind_eq_some_iff.mp h3
    obtain ⟨r, _, rfl⟩ := Option.map_eq_some_iff.mp h4
    simp [PyData.eqvAll]
  | d :: ds, e :: es, p, q, h1, h2, h3, h4 => by
    simp only [toPys] at h3 h4
    simp only [pls, Bool.and_eq_true] at h1 h2
    obtain ⟨x, a1, h3⟩ := Option.bind_eq_some_iff.mp h3
    obtain ⟨r, a2, rfl⟩ := Option.map_eq_some_iff.mp h3
    obtain ⟨y, a3, h4⟩ := Option.bind_eq_some_iff.mp h4
    obtain ⟨r', a4, rfl⟩ := Option.map_eq_some_iff.mp h4
    rw [PyData.eqvAll, Bool.and_eq_true, pl_eqv d e x y h1.1 h2.1 a1 a3, pls_eqv ds es r r' h1.2 h2.2 a2 a4, List.cons.injEq]
end
theorem eqB_pl {d e : D} (hd : pl d = true) (he : pl e = true) (kd : dpt d ≤ 64) (ke : dpt e ≤ 64) : ∃ b, eqB d e = some b ∧ (b = true ↔ d = e) := by
  have gen : ∃ b, eqB0 d e = some b ∧ (b = true ↔ d = e) := by
    obtain ⟨p, h1, h2, h3⟩ := pl_py d hd
    obtain ⟨q, h4, h5, h6⟩ := pl_py e he
    refine ⟨PyData.eqv p q, ?_, pl_eqv d e p q hd he h1 h4⟩
    unfold eqB0
    rw [h1, h4, Option.bind_some, Option.bind_some, if_pos]
    constructor
    · exact Bool.and_eq_true_iff.mpr ⟨h2, decide_eq_true (by omega)⟩
    · exact Bool.and_eq_true_iff.mpr ⟨h5, decide_eq_true (by omega)⟩
  unfold eqB
  split
  · exact ⟨_, rfl, by simp⟩
  · exact gen
theorem eqB_enc {α : Type} [DecidableEq α] (enc : α → D) (inj : ∀ a b, enc a = enc b → a = b) {a b : α} (ha : pl (enc a) = true) (hb : pl (enc b) = true) (ka : dpt (enc a) ≤ 64) (kb : dpt (enc b) ≤ 64) : eqB (enc a) (enc b) = some (decide (a = b)) := by
  obtain ⟨x, h1, h2⟩ := eqB_pl ha hb ka kb
  rw [h1]
  congr 1
  rw [Bool.eq_iff_iff, h2, decide_eq_true_iff]
  exact ⟨inj a b, fun h => by rw [h]⟩
theorem eqB_self {d : D} (h : pl d = true) (k : dpt d ≤ 64) : eqB d d = some true := by
  obtain ⟨x, h1, h2⟩ := eqB_pl h h k k
  rw [h1, h2.mpr rfl]
theorem eqB_int {a b : Int} : eqB (.int a) (.int b) = some (decide (a = b)) := eqB_enc D.int (fun _ _ h => by cases h; rfl) rfl rfl (Nat.zero_le _) (Nat.zero_le _)
theorem eqB_str {a b : Str} : eqB (.str a) (.str b) = some (decide (a = b)) := rfl
theorem eqB_bl {a b : Bool} : eqB (.bl a) (.bl b) = some (decide (a = b)) := by cases a <;> cases b <;> rfl
theorem Tg.mono {t : TgD} {d : D} {e : SE} {k k' : SE → Prop} (h : Tg t d e k) (f : ∀ e, k e → k' e) : Tg t d e k' := by
  unfold Tg So at h ⊢
  split at h
  · exact f _ h
  · exact h
theorem So.mono {α : Type} {o : Option α} {k k' : α → Prop} (h : So o k) (f : ∀ a, k a → k' a) : So o k' := by
  unfold So at h ⊢
  split at h
  · exact f _ h
  · exact h
theorem Lr.mapT {α : Type} {e : SE} {t : TgD} {enc : α → D} {vs : List Nat} {el : M Val} {Q : Val → SE → Prop} (xs : List α) (g : α → D)
    (step : ∀ x ∈ xs, okV e vs = true ∧ Tg t (enc x) (wipeE e vs) fun e1 => Tk el e1 (fun v e3 => v = .fz (g x) ∧ restE e e3 vs = e) NX)
    (hf : Q (.fr (.lst (xs.map g))) e) : Lr vs t bYes el (xs.map enc) [] e Q := by
  refine Lr.map xs (fun _ => true) g (fun x hx => ?_) ?_
  · obtain ⟨h1, h2⟩ := step x hx
    refine ⟨h1, h2.mono fun e1 h3 => ?_⟩
    rw [Tk_bYes, Bif_t]
    exact ⟨rfl, h3⟩
  · rw [List.filter_eq_self.mpr fun _ _ => rfl]; exact hf
theorem opens_str {α : Type} (f : α → Str) : ∀ l : List α, opens (l.map fun x => D.str (f x)) = l.map fun x => D.str (f x)
  | [] => by simp only [List.map_nil, opens]
  | x :: l => by simp only [List.map_cons, opens, openV, opens_str f l]
theorem opens_str' (l : List (Str)) : opens (l.map D.str) = l.map D.str := opens_str (fun x => x) l
theorem nobox_str {α : Type} (f : α → Str) : ∀ l : List α, (l.map fun x => D.str (f x)).all noBox = true
  | [] => rfl
  | x :: l => by rw [List.map_cons, List.all_cons, nobox_str f l]; rfl
theorem nobox_str' (l : List (Str)) : (l.map D.str).all noBox = true := nobox_str (fun x => x) l
theorem opens_int {α : Type} (f : α → Int) : ∀ l : List α, opens (l.map fun x => D.int (f x)) = l.map fun x => D.int (f x)
  | [] => by simp only [List.map_nil, opens]
  | x :: l => by simp only [List.map_cons, opens, openV, opens_int f l]
theorem opens_int' (l : List (Int)) : opens (l.map D.int) = l.map D.int := opens_int (fun x => x) l
theorem nobox_int {α : Type} (f : α → Int) : ∀ l : List α, (l.map fun x => D.int (f x)).all noBox = true
  | [] => rfl
  | x :: l => by rw [List.map_cons, List.all_cons, nobox_int f l]; rfl
theorem nobox_int' (l : List (Int)) : (l.map D.int).all noBox = true := nobox_int (fun x => x) l
theorem opens_tup {α : Type} (f : α → List D) : ∀ l : List α, opens (l.map fun x => D.tup (f x)) = l.map fun x => D.tup (f x)
  | [] => by simp only [List.map_nil, opens]
  | x :: l => by simp only [List.map_cons, opens, openV, opens_tup f l]
theorem opens_tup' (l : List (List D)) : opens (l.map D.tup) = l.map D.tup := opens_tup (fun x => x) l
theorem nobox_tup {α : Type} (f : α → List D) : ∀ l : List α, (l.map fun x => D.tup (f x)).all noBox = true
  | [] => rfl
  | x :: l => by rw [List.map_cons, List.all_cons, nobox_tup f l]; rfl
theorem nobox_tup' (l : List (List D)) : (l.map D.tup).all noBox = true := nobox_tup (fun x => x) l
theorem opens_lst {α : Type} (f : α → List D) : ∀ l : List α, opens (l.map fun x => D.lst (f x)) = l.map fun x => D.lst (f x)
  | [] => by simp only [List.map_nil, opens]
  | x :: l => by simp only [List.map_cons, opens, openV, opens_lst f l]
theorem opens_lst' (l : List (List D)) : opens (l.map D.lst) = l.map D.lst := opens_lst (fun x => x) l
theorem nobox_lst {α : Type} (f : α → List D) : ∀ l : List α, (l.map fun x => D.lst (f x)).all noBox = true
  | [] => rfl
  | x :: l => by rw [List.map_cons, List.all_cons, nobox_lst f l]; rfl
theorem nobox_lst' (l : List (List D)) : (l.map D.lst).all noBox = true := nobox_lst (fun x => x) l
theorem opens_bl {α : Type} (f : α → Bool) : ∀ l : List α, opens (l.map fun x => D.bl (f x)) = l.map fun x => D.bl (f x)
  | [] => by simp only [List.map_nil, opens]
  | x :: l => by simp only [List.map_cons, opens, openV, opens_bl f l]
theorem opens_bl' (l : List (Bool)) : opens (l.map D.bl) = l.map D.bl := opens_bl (fun x => x) l
theorem nobox_bl {α : Type} (f : α → Bool) : ∀ l : List α, (l.map fun x => D.bl (f x)).all noBox = true
  | [] => rfl
  | x :: l => by rw [List.map_cons, List.all_cons, nobox_bl f l]; rfl
theorem nobox_bl' (l : List (Bool)) : (l.map D.bl).all noBox = true := nobox_bl (fun x => x) l
section
variable {t : TgD} {b : SP} {e : SE} {Q : SOut → Prop} {c : M Bool}
theorem Ts_some {p : SP} {r : SOut} (h : p e = some r) : Ts p e Q = Q r := by rw [Ts_is]; unfold TsU; rw [h]
theorem Fr_nil : Fr t b [] e Q = Q (.nx e) := by unfold Fr; exact Ts_some rfl
theorem Fr_cons {d : D} {ds : List D} : Fr t b (d :: ds) e Q = Tg t d e fun e1 => Ts b e1 (turn (fun e2 => Fr t b ds e2 Q) Q) := by
  unfold Fr
  rw [Ts_is]
  unfold TsU Tg So
  simp only [forRun]
  generalize t d e = o
  cases o with
  | none => rfl
  | some e1 =>
    simp only [Option.bind_some]
    generalize b e1 = o
    cases o with
    | none => rfl
    | some r => cases r <;> rfl
theorem Wh_succ {n : Nat} : Wh c b (n + 1) e Q = Tk c e (fun x e1 => Bif x (Ts b e1 (turn (fun e2 => Wh c b n e2 Q) Q)) (Q (.nx e1))) (fun x d e1 => Q (.exc x d e1)) := by
  unfold Wh
  rw [Ts_is, Tk_is]
  unfold TsU TkU
  simp only [whRun]
  generalize c e = o
  cases o with
  | none => rfl
  | some r => cases r with
    | exc _ _ _ => rfl
    | ok x e1 =>
      cases x with
      | false => simp only [Bif_f]
      | true =>
        simp only [Bif_t]
        generalize b e1 = o
        cases o with
        | none => rfl
        | some r => cases r <;> rfl
theorem Lr_nil {vs : List Nat} {el : M Val} {acc : List D} {Q : Val → SE → Prop} : Lr vs t c el [] acc e Q = Q (.fr (.lst acc)) e := by
  unfold Lr; rw [Tk_is]; rfl
theorem Lr_cons {vs : List Nat} {el : M Val} {d : D} {ds acc : List D} {Q : Val → SE → Prop} : Lr vs t c el (d :: ds) acc e Q = (okV e vs = true ∧ Tg t d (wipeE e vs) fun e1 => Tk c e1 (fun x e2 => Bif x (Tk el e2 (fun v e3 => So (fzo v) fun y => Lr vs t c el ds (acc ++ [y]) (restE e e3 vs) Q) NX) (Lr vs t c el ds acc (restE e e2 vs) Q)) NX) := by
  unfold Lr
  rw [Tk_is]
  unfold TkU Tg So
  simp only [lcRun]
  by_cases h : okV e vs = true
  · simp only [h, if_true, true_and]
    generalize t d (wipeE e vs) = o
    cases o with
    | none => rfl
    | some e1 =>
      simp only [Option.bind_some]
      generalize c e1 = o
      cases o with
      | none => rfl
      | some r => cases r with
        | exc _ _ _ => rfl
        | ok x e2 =>
          cases x with
          | false => simp only [Bif_f]
          | true =>
            simp only [Bif_t]
            generalize el e2 = o
            cases o with
            | none => rfl
            | some r => cases r with
              | exc _ _ _ => rfl
              | ok v e3 => cases v <;> rfl
  · rw [Bool.not_eq_true] at h; simp [h]
end
def ioo : Option (Option Bnd) → Bool
  | some (some (.io _)) => true
  | _ => false
theorem ioo_none : ioo (some none) = false := rfl
theorem ioo_fz {d : D} : ioo (some (some (.fz d))) = false := rfl
theorem ioo_own {d : D} : ioo (some (some (.own d))) = false := rfl
theorem ioo_io {d : D} : ioo (some (some (.io d))) = true := rfl
theorem stow_fz {i : Nat} {d : D} {e : SE} : stow i (.fz d) e = if i < e.length ∧ ioo e[i]? = false then some (e.set i (some (.fz d))) else none := by
  unfold stow
  by_cases h : i < e.length
  · simp only [h, if_true, true_and]
    rw [List.getElem?_eq_getElem h]
    generalize e[i] = o
    cases o with
    | none => rfl
    | some b => cases b <;> rfl
  · simp [h]
theorem stow_fr {i : Nat} {d : D} {e : SE} : stow i (.fr d) e = if i < e.length ∧ ioo e[i]? = false then some (e.set i (some (.own d))) else none := by
  unfold stow
  by_cases h : i < e.length
  · simp only [h, if_true, true_and]
    rw [List.getElem?_eq_getElem h]
    generalize e[i] = o
    cases o with
    | none => rfl
    | some b => cases b <;> rfl
  · simp [h]
mutual
def shw : D → Bool
  | .non => true
  | .bl _ => true
  | .int i => decide (i.natAbs < 10 ^ 38)
  | .str s => s.cps.toList.all fun c => decide (c < 16 ^ 8)
  | .tup ds => shws ds
  | .lst ds => shws ds
  | _ => false
def shws : List D → Bool
  | [] => true
  | d :: ds => shw d && shws ds
end
mutual
def blk : D → Nat
  | .str s => s.length
  | .tup ds => blks ds
  | .lst ds => blks ds
  | _ => 0
def blks : List D → Nat
  | [] => 0
  | d :: ds => blk d + 1 + blks ds
end
theorem len_str (s : String) : (Str.ofString s).length = s.length := by
  exact PySem.ofString_length s
mutual
theorem shw_py : ∀ d : D, shw d = true → ∃ p, toPy d = some p ∧ p.showable = true ∧ p.hasDict = false ∧ p.leavesShort 40 = true ∧ p.depth = dpt d ∧ p.bulk = blk d
  | .non, _ => ⟨.none, by simp only [toPy], by simp only [PyData.showable], by simp only [PyData.hasDict], by simp only [PyData.leavesShort], by simp only [PyData.depth, dpt], by simp only [PyData.bulk, blk]⟩
  | .bl b, _ => ⟨.bool b, by simp only [toPy], by simp only [PyData.showable], by simp only [PyData.hasDict], by simp only [PyData.leavesShort], by simp only [PyData.depth, dpt], by simp only [PyData.bulk, blk]⟩
  | .int i, h => by
    simp only [shw, decide_eq_true_eq] at h
    have h2 : i.natAbs.log2 < 1920 := by
      by_cases z : i.natAbs = 0
      · rw [z]; decide
      · have h3 : i.natAbs < 2 ^ 128 := Nat.lt_trans h (by decide)
        have := (Nat.log2_lt z).mpr h3
        omega
    refine ⟨.int i, by simp only [toPy], by simp only [PyData.showable, h2, decide_true], by simp only [PyData.hasDict], ?_, by simp only [PyData.depth, dpt], by simp only [PyData.bulk, blk]⟩
    simp only [PyData.leavesShort, decide_eq_true_eq, PyData.shown_int, len_str]
    have := int_text_length_le10 (a := i) (k := 38) (by decide) h
    omega
  | .str s, h => ⟨.str s, by simp only [toPy], by simp only [PyData.showable], by simp only [PyData.hasDict], by simpa only [PyData.leavesShort, shw] using h, by simp only [PyData.depth, dpt], by simp only [PyData.bulk, blk]; rfl⟩
  | .tup ds, h => by
    obtain ⟨ps, h1, h2, h3, h4, h5, h6⟩ := shws_py ds (by simpa only [shw] using h)
    exact ⟨.tuple ps, by simp only [toPy, h1, Option.map_some], by simp only [PyData.showable, h2], by simp only [PyData.hasDict, h3], by simp only [PyData.leavesShort, h4], by simp only [PyData.depth, dpt, h5], by simp only [PyData.bulk, blk, h6]⟩
  | .lst ds, h => by
    obtain ⟨ps, h1, h2, h3, h4, h5, h6⟩ := shws_py ds (by simpa only [shw] using h)
    exact ⟨.list ps, by simp only [toPy, h1, Option.map_some], by simp only [PyData.showable, h2], by simp only [PyData.hasDict, h3], by simp only [PyData.leavesShort, h4], by simp only [PyData.depth, dpt, h5], by simp only [PyData.bulk, blk, h6]⟩
  | .scr _, h => by simp only [shw] at h; cases h
  | .dct _ _, h => by simp only [shw] at h; cases h
  | .ins _ _, h => by simp only [shw] at h; cases h
  | .box _, h => by simp only [shw] at h; cases h
theorem shws_py : ∀ ds : List D, shws ds = true → ∃ ps, toPys ds = some ps ∧ PyData.showableAll ps = true ∧ PyData.hasDictAll ps = false ∧ PyData.leavesShortAll 40 ps = true ∧ PyData.depthAll ps = dpts ds ∧ PyData.bulkAll ps = blks ds
  | [], _ => ⟨[], by simp only [toPys], by simp only [PyData.showableAll], by simp only [PyData.hasDictAll], by simp only [PyData.leavesShortAll], by simp only [PyData.depthAll, dpts], by simp only [PyData.bulkAll, blks]⟩
  | d :: ds, h => by
    simp only [shws, Bool.and_eq_true] at h
    obtain ⟨p, a1, a2, a3, a4, a5, a6⟩ := shw_py d h.1
    obtain ⟨ps, h1, h2, h3, h4, h5, h6⟩ := shws_py ds h.2
    exact ⟨p :: ps, by simp only [toPys, a1, h1, Option.bind_some, Option.map_some], by simp only [PyData.showableAll, a2, h2, Bool.and_true], by simp only [PyData.hasDictAll, a3, h3, Bool.or_false], by simp only [PyData.leavesShortAll, a4, h4, Bool.and_true], by simp only [PyData.depthAll, dpts, a5, h5], by simp only [PyData.bulkAll, blks, a6, h6]⟩
end
def shD (d : D) : Str := ((toPy d).getD .none).shown
theorem repr_ok {d : D} (h : shw d = true) (hb : blk d ≤ 2 ^ 18) (hd : dpt d ≤ 60) : reprD [d] = some (.fz (.str (shD d))) := by
  obtain ⟨p, h1, h2, h3, h4, h5, h6⟩ := shw_py d h
  have h7 := PyData.shown_le_bulk 40 (by decide) p h4
  have e : (2 : Nat) ^ 18 = 262144 := by decide
  show ((toPy d).bind fun p => if p.showable = true ∧ p.hasDict = false ∧ p.depth ≤ 60 ∧ p.shown.length ≤ sizeLine then some (Val.fz (D.str p.shown)) else none) = _
  rw [h1, Option.bind_some, if_pos]
  · unfold shD; rw [h1]; rfl
  · refine ⟨h2, h3, by omega, ?_⟩
    rw [sizeLine_eq]
    omega
end VE
namespace VE
open PySem PySem.Spec PyProof.Rows L2
def itnO : Option (Option Bnd) → Option (List (D × D))
  | some (some (.own (.dct 2 kvs))) => some kvs
  | _ => none
theorem itnO_own {kvs : List (D × D)} : itnO (some (some (.own (.dct 2 kvs)))) = some kvs := rfl
theorem Tk_itN {i : Nat} {e : SE} {Q : List D → SE → Prop} {X : PX} : Tk (itN i) e Q X = So (itnO e[i]?) fun kvs => Q (kvs.map fun p => .tup [p.1, p.2]) (e.set i none) := by
  rw [Tk_is]
  unfold TkU itN itnO
  generalize e[i]? = o
  split <;> rename_i h <;> split at h <;> simp_all [So]
  all_goals (try (obtain ⟨rfl, rfl⟩ := h; rfl))
def ownB (e : SE) (i : Nat) : Option (Bnd × List D) := match e[i]? with
  | some (some bd) => match bd.d with
    | .lst ds0 => if bd.ow = true ∧ ds0.all noBox = true then some (bd, ds0) else none
    | _ => none
  | _ => none
noncomputable def FrO (t : TgD) (b : SP) (i : Nat) (ds0 : List D) (ds : List D) (e : SE) (Q : SOut → Prop) (_ : Opq (t, b, i, ds0, Q) := .mk) : Prop := Ts (forRunO t b i ds0 ds) e Q
def endO (i : Nat) (bd : Bnd) (Q : SOut → Prop) (r : SOut) : Prop := So (mapO i bd r) Q
theorem Ts_sForO {en : Bool} {i : Nat} {t : TgD} {b : SP} {e : SE} {Q : SOut → Prop} : Ts (sForO en i t b) e Q = So (ownB e i) fun p => FrO t b i p.2 (itemsO en p.2) (e.set i (some (.io (.lst p.2)))) (endO i p.1 Q) := by
  unfold FrO
  rw [Ts_is]
  unfold sForO ownB TsU
  dsimp only
  generalize e[i]? = o
  cases o with
  | none => rfl
  | some o => cases o with
    | none => rfl
    | some bd =>
      dsimp only
      cases hd : bd.d with
      | lst ds0 =>
        dsimp only
        by_cases h : bd.ow = true ∧ ds0.all noBox = true
        · rw [if_pos h, if_pos h, So_some]
          dsimp only
          generalize forRunO t b i ds0 (itemsO en ds0) (e.set i (some (.io (.lst ds0)))) = o
          cases o with
          | none => rfl
          | some r =>
            simp only [Option.bind_some, endO]
            generalize mapO i bd r = o
            cases o <;> rfl
        · rw [if_neg h, if_neg h]; rfl
      | _ => rfl
section
variable {α : Type} {e : SE} {t : TgD} {b : SP} {enc : α → D} {Q : SOut → Prop}
theorem FrO.inv {i : Nat} {ds0 : List D} (xs : List α) (I : List α → SE → Prop) (chk : ∀ pre e, I pre e → e[i]? = some (some (.io (.lst ds0)))) (h0 : I [] e) (step : ∀ pre x post e, xs = pre ++ x :: post → I pre e → Tg t (enc x) e fun e1 => Ts b e1 (turn (I (pre ++ [x])) Q)) (hf : ∀ e, I xs e → Q (.nx e)) : FrO t b i ds0 (xs.map enc) e Q := by
  have go : ∀ (ys pre : List α) (e : SE), xs = pre ++ ys → I pre e → TsU (forRunO t b i ds0 (ys.map enc)) e Q := fun ys => by
    induction ys with
    | nil =>
      intro pre e h1 h2
      rw [List.append_nil] at h1
      unfold TsU
      simp only [List.map_nil, forRunO]
      rw [if_pos (chk pre e h2)]
      exact hf e (h1 ▸ h2)
    | cons y ys ih =>
      intro pre e h1 h2
      have h3 := step pre y ys e h1 h2
      unfold Tg So at h3
      unfold TsU
      simp only [List.map_cons, forRunO]
      rw [if_pos (chk pre e h2)]
      split at h3
      · rename_i e1 he1
        rw [he1, Option.bind_some]
        rw [Ts_is] at h3
        unfold TsU at h3
        split at h3
        · rename_i r hr
          rw [hr]
          cases r with
          | nx e2 => exact ih (pre ++ [y]) e2 (by rw [h1, List.append_assoc]; rfl) h3
          | ct e2 => exact ih (pre ++ [y]) e2 (by rw [h1, List.append_assoc]; rfl) h3
          | bk e2 => exact h3
          | rt v e2 => exact h3
          | exc c d e2 => exact h3
        · exact h3.elim
      · exact h3.elim
  unfold FrO
  rw [Ts_is]
  exact go xs [] e rfl h0
end
theorem enumL_map {α : Type} (enc : α → D) : ∀ (xs : List α) (k : Nat), enumL k (xs.map enc) = (xs.zipIdx k).map fun p => D.tup [.int (p.2 : Nat), enc p.1]
  | [], _ => rfl
  | x :: xs, k => by simp only [List.map_cons, enumL, List.zipIdx_cons, enumL_map enc xs (k + 1)]
theorem itemsO_t {ds : List D} : itemsO true ds = enumL 0 ds := rfl
theorem itemsO_f {ds : List D} : itemsO false ds = ds := rfl
end VE
namespace VE
open PySem PySem.Spec PyProof.Rows L2
def blv : Val → Option Bool
  | .fz (.bl b) => some b
  | _ => none
section
variable {p q : M Val} {e : SE} {Q : Val → SE → Prop} {X : PX}
theorem Tk_xInvO {c : Str} {F : M Val} : Tk (xInvO c F p) e Q X = Tk p e (fun v e1 => isIns c "" e1 v = true ∧ Tk (callE 1 F [v]) e1 Q X) X := by
  rw [Tk_is]
  unfold xInvO; rw [TkU_bind]; refine TkU_ext fun v e1 => ?_
  exact TkU_oif (c := fun env => isIns c "" env v = true) (A := callE 1 F [v])
theorem Tk_twoN {c : Str} {F : M Val} {alt : D → D → Option Val} : Tk (twoN c F alt p q) e Q X = Tk p e (fun v e1 => Tk q e1 (fun u e2 => Bif (isIns c "" e2 v && isIns c "" e2 u) (Tk (callE 2 F [v, u]) e2 (fun w e3 => So (blv w) fun b => Q (.fz (.bl (!b))) e3) NX) (So (deref e2 v) fun da => So (deref e2 u) fun db => So (alt da db) fun w => Q w e2)) X) X := by
  rw [Tk_is]
  unfold twoN; rw [TkU_bind]; refine TkU_ext fun v e1 => ?_; rw [TkU_bind]; refine TkU_ext fun u e2 => ?_
  unfold Bif
  by_cases h : (isIns c "" e2 v && isIns c "" e2 u) = true
  · rw [if_pos h]
    unfold TkU nox; simp only [h, if_true]
    generalize callE 2 F [v, u] e2 = o
    cases o with
    | none => rfl
    | some r => cases r with
      | ok w e3 => cases w with
        | fz d => cases d <;> rfl
        | _ => rfl
      | exc _ _ _ => simp [NX]
  · rw [if_neg h]
    unfold TkU; simp only [h]
    simp only [Bool.false_eq_true, if_false]
    generalize deref e2 v = o
    generalize deref e2 u = o2
    cases o with
    | none => rfl
    | some da => cases o2 with
      | none => rfl
      | some db =>
        simp only [Option.bind_some, So_some]
        cases alt da db <;> rfl
end
end VE
namespace VE
open PySem PySem.Spec PyProof.Rows L2
theorem Tk_xOpN {p q : M Val} {e : SE} {Q : Val → SE → Prop} {X : PX} {c : Str} {F : M Val} : Tk (xOpN c F p q) e Q X = Tk p e (fun v e1 => Tk q e1 (fun u e2 => (isIns c "" e2 v && isIns c "" e2 u) = true ∧ Tk (callE 2 F [v, u]) e2 Q NX) X) X := by
  rw [Tk_is]
  unfold xOpN; rw [TkU_bind]; refine TkU_ext fun v e1 => ?_; rw [TkU_bind]; refine TkU_ext fun u e2 => ?_
  rw [← TkU_nox (X := X)]
  exact TkU_oif (c := fun env => (isIns c "" env v && isIns c "" env u) = true) (A := nox (callE 2 F [v, u]))
end VE
namespace VE
open PySem PySem.Spec PyProof.Rows L2
theorem any_enc {α : Type} [DecidableEq α] (enc : α → D) (inj : ∀ a b, enc a = enc b → a = b) {a : α} {p : PyData} (ha : pl (enc a) = true) (hp : toPy (enc a) = some p) : ∀ {l : List α} {ps : List PyData}, pls (l.map enc) = true → toPys (l.map enc) = some ps → ps.any (fun z => PyData.eqv z p) = decide (a ∈ l)
  | [], ps, _, h => by
    simp only [List.map_nil, toPys] at h
    cases h
    simp
  | x :: l, ps, hl, h => by
    simp only [List.map_cons, pls, Bool.and_eq_true] at hl
    simp only [List.map_cons, toPys] at h
    obtain ⟨q, hq, h⟩ := Option.bind_eq_some_iff.mp h
    obtain ⟨qs, hqs, rfl⟩ := Option.map_eq_some_iff.mp h
    rw [List.any_cons, any_enc enc inj ha hp hl.2 hqs]
    have e := pl_eqv (enc x) (enc a) q p hl.1 ha hq hp
    by_cases z : x = a
    · subst z
      rw [e.mpr rfl]
      simp
    · have : PyData.eqv q p = false := by
        cases hv : PyData.eqv q p with
        | false => rfl
        | true => exact absurd (inj _ _ (e.mp hv)) z
      rw [this, Bool.false_or]
      congr 1
      rw [List.mem_cons]
      exact propext ⟨fun h => .inr h, fun h => h.resolve_left fun y => z y.symm⟩
theorem inU_enc {α : Type} [DecidableEq α] (enc : α → D) (inj : ∀ a b, enc a = enc b → a = b) {a : α} {l : List α} (ha : pl (enc a) = true) (ka : dpt (enc a) ≤ 64) (hl : pls (l.map enc) = true) (kl : dpts (l.map enc) ≤ 63) : inU (enc a) (.lst (l.map enc)) = some (.fz (.bl (decide (a ∈ l)))) := by
  obtain ⟨p, h1, h2, h3⟩ := pl_py (enc a) ha
  obtain ⟨ps, g1, g2, g3⟩ := pls_py (l.map enc) hl
  have s1 : SeqAt.shaped p = true := by unfold SeqAt.shaped; rw [h2, h3, Bool.true_and]; exact decide_eq_true ka
  have s2 : SeqAt.shaped (.list ps) = true := by
    unfold SeqAt.shaped
    simp only [PyData.canLay0, PyData.depth, g2, g3, Bool.true_and]
    exact decide_eq_true (by omega)
  show (memB (enc a) (.lst (l.map enc))).map _ = _
  have e : memB (enc a) (.lst (l.map enc)) = (toPy (enc a)).bind fun p => (toPys (l.map enc)).bind fun ps => if SeqAt.shaped p = true ∧ SeqAt.shaped (.list ps) = true then some (ps.any fun z => PyData.eqv z p) else none := by
    unfold memB
    rfl
  rw [e, h1, g1, Option.bind_some, Option.bind_some, if_pos ⟨s1, s2⟩, any_enc enc inj ha h1 hl g1]
  rfl
end VE
namespace VE
open PySem PySem.Spec PyProof.Rows L2
theorem Ts_congr {p q : SP} {e : SE} {Q : SOut → Prop} (h : p e = q e) : Ts p e Q = Ts q e Q := by
  rw [Ts_is]
  unfold TsU
  rw [h]
theorem Ts_sForB {i : Nat} {t : TgD} {b : SP} {e : SE} {Q : SOut → Prop} : Ts (sForB i t b) e Q = if isIo e[i]? = true then Ts (sForO false i t b) e Q else Ts (sFor (itD (xf i)) t b) e Q := by
  by_cases h : isIo e[i]? = true
  · rw [if_pos h]; exact Ts_congr (if_pos h)
  · rw [if_neg h]; exact Ts_congr (if_neg h)
theorem isIo_io {d : D} : isIo (some (some (.io d))) = true := rfl
theorem isIo_fz {d : D} : isIo (some (some (.fz d))) = false := rfl
theorem isIo_own {d : D} : isIo (some (some (.own d))) = false := rfl
def ownD1 : Option (Option Bnd) → Option D
  | some (some (.own d)) => some d
  | _ => none
theorem ownD1_own {d : D} : ownD1 (some (some (.own d))) = some d := rfl
def frD : Val → Option D
  | .fr d => some d
  | _ => none
theorem frD_fr {d : D} : frD (.fr d) = some d := rfl
theorem Ts_forO3_nil {i : Nat} {B : SP} {e : SE} {Q : SOut → Prop} : Ts (forO3 i B []) e Q = Q (.nx e) := by
  rw [Ts_is]
  rfl
theorem Ts_forO3_cons {i : Nat} {B : SP} {d : D} {ds : List D} {e : SE} {Q : SOut → Prop} : Ts (forO3 i B (d :: ds)) e Q = So (stow i (.fr d) e) fun e1 => Ts B e1 (turn (fun e2 => Ts (forO3 i B ds) e2 Q) Q) := by
  rw [Ts_is]
  unfold TsU forO3
  cases h : stow i (.fr d) e with
  | none => rfl
  | some e1 =>
    simp only [Option.bind_some, So]
    cases hB : B e1 with
    | none => rfl
    | some r => cases r <;> rfl
theorem Ts_sForN3 {j i : Nat} {q r : M Val} {B : SP} {e : SE} {Q : SOut → Prop} : Ts (sForN3 j i q r B) e Q = So (ownD1 e[j]?) fun _ => Tk q e (fun vb e1 => Tk r e1 (fun vc e2 => So (frD vb) fun d2 => So (frD vc) fun d3 => So (ownD1 e2[j]?) fun d1 => Ts (forO3 i B [d1, d2, d3]) (e2.set j none) Q) (fun c d e1 => Q (.exc c d e1))) (fun c d e1 => Q (.exc c d e1)) := by
  have main : ∀ d, e[j]? = some (some (.own d)) → Ts (sForN3 j i q r B) e Q = Ts (sWith q fun vb => sWith r fun vc env => match vb, vc with
    | .fr d2, .fr d3 => (match env[j]? with
      | some (some (.own d1)) => forO3 i B [d1, d2, d3] (env.set j none)
      | _ => none)
    | _, _ => none) e Q := fun d h => by
    refine Ts_congr ?_
    unfold sForN3
    split
    · rfl
    · rename_i z
      exact absurd h (z d)
  have none' : (∀ d, e[j]? ≠ some (some (.own d))) → Ts (sForN3 j i q r B) e Q = False := fun h => by
    have z : sForN3 j i q r B e = none := by
      unfold sForN3
      split
      · rename_i d hd
        exact absurd hd (h d)
      · rfl
    rw [Ts_is]
    unfold TsU
    rw [z]
  cases h : e[j]? with
  | none => rw [none' (by rw [h]; simp)]; rfl
  | some o => cases o with
    | none => rw [none' (by rw [h]; simp)]; rfl
    | some b => cases b with
      | fz d => rw [none' (by rw [h]; simp)]; rfl
      | io d => rw [none' (by rw [h]; simp)]; rfl
      | own d =>
        rw [main d h]
        show _ = Tk q e _ _
        rw [Ts_is, Tk_is, TsU_sWith]
        refine TkU_ext fun vb e1 => ?_
        rw [TsU_sWith]
        refine TkU_ext fun vc e2 => ?_
        cases vb with
        | fz _ => rfl
        | bor _ => rfl
        | fr d2 => cases vc with
          | fz _ => rfl
          | bor _ => rfl
          | fr d3 =>
            show TsU (fun env => match env[j]? with
              | some (some (.own d1)) => forO3 i B [d1, d2, d3] (env.set j none)
              | _ => none) e2 Q = So (ownD1 e2[j]?) _
            unfold TsU
            dsimp only
            cases h2 : e2[j]? with
            | none => rfl
            | some o => cases o with
              | none => rfl
              | some b => cases b <;> rfl
end VE
namespace SV
open PySem PySem.Spec PyProof.Rows L2 VE PySem.W
abbrev Ky := Str × Str × Str
structure Zs where
  sg : Str
  ln : Str
  wd : Str
  to : Nat
deriving DecidableEq
def Zs.key (s : Zs) : Ky := (s.sg, s.ln, s.wd)
abbrev Plan := List (List Zs)
abbrev kyD (k : Ky) : D := .tup [.str k.1, .str k.2.1, .str k.2.2]
abbrev spD (s : Zs) : D := .tup [.str s.sg, .str s.ln, .str s.wd, .int (s.to : Int)]
abbrev roomD (r : List Zs) : D := .lst (r.map spD)
abbrev planD (P : Plan) : D := .lst (P.map roomD)
abbrev keptD (P : Plan) : D := .tup (P.map fun r => .tup (r.map spD))
theorem Zs.ext' {s t : Zs} (h : s.key = t.key) (h2 : s.to = t.to) : s = t := by
  cases s; cases t
  simp only [Zs.key, Prod.mk.injEq] at h
  simp_all
theorem perm_of_subset {α : Type} [DecidableEq α] : ∀ {r l : List α}, r.Nodup → (∀ x ∈ r, x ∈ l) → r.length ≤ l.length ∧ (l.length ≤ r.length → l.Perm r)
  | [], l, _, _ => ⟨Nat.zero_le _, fun h => by
    have : l = [] := List.eq_nil_of_length_eq_zero (by simpa using h)
    rw [this]⟩
  | x :: r, l, nd, h => by
    obtain ⟨n1, n2⟩ := List.nodup_cons.mp nd
    have hx : x ∈ l := h x List.mem_cons_self
    have hl : (l.erase x).length = l.length - 1 := List.length_erase_of_mem hx
    have hpos : 0 < l.length := List.length_pos_of_mem hx
    obtain ⟨h1, h2⟩ := perm_of_subset (r := r) (l := l.erase x) n2 fun y hy => by
      have hne : y ≠ x := fun z => n1 (z ▸ hy)
      exact (List.mem_erase_of_ne hne).mpr (h y (List.mem_cons_of_mem _ hy))
    refine ⟨by rw [List.length_cons]; omega, fun h3 => ?_⟩
    rw [List.length_cons] at h3
    exact (List.perm_cons_erase hx).trans ((h2 (by omega)).cons x)
def go (P : Plan) (a : Nat) (k : Ky) : Option Nat := ((P.getD a []).find? fun s => decide (s.key = k)).map (·.to)
def tr (P : Plan) : Nat → List Ky → Bool
  | _, [] => true
  | a, k :: ks => match go P a k with
    | some b => tr P b ks
    | none => false
structure Wf (P : Plan) : Prop where
  to : ∀ r ∈ P, ∀ s ∈ r, s.to < P.length
  nd : ∀ r ∈ P, (r.map Zs.key).Nodup
theorem Wf.room {P : Plan} (h : Wf P) (a : Nat) : ((P.getD a []).map Zs.key).Nodup ∧ ∀ s ∈ P.getD a [], s.to < P.length := by
  rw [List.getD_eq_getElem?_getD]
  cases hr : P[a]? with
  | none => simp
  | some r =>
    have := List.mem_of_getElem? hr
    exact ⟨h.nd r this, h.to r this⟩
theorem go_some {P : Plan} (h : Wf P) {a b : Nat} {k : Ky} : go P a k = some b ↔ ∃ s ∈ P.getD a [], s.key = k ∧ s.to = b := by
  have nd := (h.room a).1
  unfold go
  generalize P.getD a [] = r at nd
  induction r with
  | nil => simp
  | cons s r ih =>
    simp only [List.map_cons, List.nodup_cons] at nd
    simp only [List.find?_cons]
    by_cases hs : s.key = k
    · simp only [hs, decide_true, Option.map_some, Option.some.injEq, List.mem_cons]
      constructor
      · intro e; exact ⟨s, .inl rfl, hs, e⟩
      · rintro ⟨t, rfl | ht, e1, e2⟩
        · exact e2
        · exact absurd (List.mem_map_of_mem (f := Zs.key) ht) (by rw [e1, ← hs]; exact nd.1)
    · simp only [hs, decide_false]
      refine (ih nd.2).trans ?_
      simp only [List.mem_cons]
      constructor
      · rintro ⟨t, ht, e⟩; exact ⟨t, .inr ht, e⟩
      · rintro ⟨t, rfl | ht, e1, e2⟩
        · exact absurd e1 hs
        · exact ⟨t, ht, e1, e2⟩
theorem go_lt {P : Plan} (h : Wf P) {a b : Nat} {k : Ky} (g : go P a k = some b) : b < P.length := by
  obtain ⟨s, hs, _, rfl⟩ := (go_some h).mp g
  exact (h.room a).2 s hs
theorem tr_one {P : Plan} {a : Nat} {k : Ky} : tr P a [k] = (go P a k).isSome := by
  unfold tr
  cases go P a k <;> simp [tr]
theorem tr_cons {P : Plan} {a b : Nat} {k : Ky} (h : go P a k = some b) (ks : List Ky) : tr P a (k :: ks) = tr P b ks := by
  rw [tr, h]
theorem alike_go {P Q : Plan} {a c : Nat} (h : tr P a = tr Q c) {k : Ky} {b : Nat} (g : go P a k = some b) : ∃ d, go Q c k = some d ∧ tr P b = tr Q d := by
  have h1 : tr Q c [k] = true := by rw [← h, tr_one, g]; rfl
  rw [tr_one] at h1
  obtain ⟨d, hd⟩ := Option.isSome_iff_exists.mp h1
  refine ⟨d, hd, ?_⟩
  funext ks
  have := congrFun h (k :: ks)
  rwa [tr_cons g, tr_cons hd] at this
end SV
namespace SV
open PySem PySem.Spec PyProof.Rows L2 VE PySem.W
def spP (s : Zs) : PyData := .tuple [.str s.sg, .str s.ln, .str s.wd, .int (s.to : Int)]
theorem pyD_sp (s : Zs) : pyD (spD s) = spP s := by
  simp [pyD, toPy, toPys, spP]
theorem sp_alike (s t : Zs) : alike (spP s) (spP t) = true := by
  simp [spP, alike, alikeAll]
theorem spP_inj {s t : Zs} (h : spP s = spP t) : s = t := by
  unfold spP at h
  simp only [PyData.tuple.injEq, List.cons.injEq, PyData.str.injEq, PyData.int.injEq] at h
  obtain ⟨h1, h2, h3, h4, _⟩ := h
  exact Zs.ext' (by unfold Zs.key; rw [h1, h2, h3]) (by omega)
def srt (l : List Zs) : List Zs := l.mergeSort (dataLe false spP)
theorem srt_perm (l : List Zs) : (srt l).Perm l := List.mergeSort_perm l _
theorem srt_same {l m : List Zs} (p : l.Perm m) (nd : m.Nodup) : srt l = srt m :=
  sort_fix p (fun x hx y hy => by
    obtain ⟨s, _, rfl⟩ := List.mem_map.mp hx
    obtain ⟨t, _, rfl⟩ := List.mem_map.mp hy
    exact sp_alike s t) (fun a _ b _ h => spP_inj h) nd
abbrev kat (ks : List Nat) (a : Nat) : Nat := ks.getD a 0
def told (P : Plan) (ks : List Nat) (a : Nat) : List Zs := (P.getD a []).map fun s => { s with to := kat ks s.to }
def kd (P : Plan) (ks : List Nat) (a : Nat) : Nat × List Zs := (kat ks a, srt (told P ks a))
structure KI (P : Plan) (ks : List Nat) (f : Nat) : Prop where
  len : ks.length = P.length
  lt : ∀ a, a < P.length → kat ks a < f
  all : ∀ i, i < f → ∃ a, a < P.length ∧ kat ks a = i
  co : ∀ a b, a < P.length → b < P.length → tr P a = tr P b → kat ks a = kat ks b
structure Rnd (P : Plan) (ks : List Nat) (kl : List (Nat × List Zs)) (ls : List Nat) : Prop where
  len : ls.length = P.length
  nd : kl.Nodup
  at_ : ∀ a, a < P.length → kl[kat ls a]? = some (kd P ks a)
  from_ : ∀ k ∈ kl, ∃ a, a < P.length ∧ k = kd P ks a
def Fine (P : Plan) (ls : List Nat) : Prop := ∀ a b, a < P.length → b < P.length → kat ls a = kat ls b → tr P a = tr P b
theorem told_nodup {P : Plan} (W : Wf P) (ks : List Nat) (a : Nat) : (told P ks a).Nodup := by
  have h := (W.room a).1
  unfold told
  generalize P.getD a [] = r at h
  have : (r.map fun s => ({ s with to := kat ks s.to } : Zs)).map Zs.key = r.map Zs.key := by
    rw [List.map_map]; rfl
  rw [← this] at h
  exact List.Pairwise.of_map _ (fun x y q z => q (by rw [z])) h
theorem told_sub {P : Plan} (W : Wf P) {ks : List Nat} {f : Nat} (h : KI P ks f) {a b : Nat} (ha : a < P.length) (hb : b < P.length) (e : tr P a = tr P b) : ∀ x ∈ told P ks a, x ∈ told P ks b := by
  intro x hx
  obtain ⟨s, hs, rfl⟩ := List.mem_map.mp hx
  have g : go P a s.key = some s.to := (go_some W).mpr ⟨s, hs, rfl, rfl⟩
  obtain ⟨d, gd, ed⟩ := alike_go e g
  obtain ⟨s', hs', e1, e2⟩ := (go_some W).mp gd
  refine List.mem_map.mpr ⟨s', hs', Zs.ext' e1 ?_⟩
  show kat ks s'.to = kat ks s.to
  rw [e2]
  exact (h.co _ _ (go_lt W g) (go_lt W gd) ed).symm
theorem kd_eq {P : Plan} (W : Wf P) {ks : List Nat} {f : Nat} (h : KI P ks f) {a b : Nat} (ha : a < P.length) (hb : b < P.length) (e : tr P a = tr P b) : kd P ks a = kd P ks b := by
  unfold kd
  rw [h.co a b ha hb e]
  congr 1
  refine srt_same ((List.perm_ext_iff_of_nodup (told_nodup W ks a) (told_nodup W ks b)).mpr fun x => ⟨told_sub W h ha hb e x, told_sub W h hb ha e.symm x⟩) (told_nodup W ks b)
theorem idx_inj {α : Type} {l : List α} (nd : l.Nodup) {i j : Nat} {x : α} (h1 : l[i]? = some x) (h2 : l[j]? = some x) : i = j := by
  obtain ⟨a1, b1⟩ := List.getElem?_eq_some_iff.mp h1
  obtain ⟨a2, b2⟩ := List.getElem?_eq_some_iff.mp h2
  exact (List.getElem_inj nd).mp (b1.trans b2.symm)
theorem Rnd.same {P : Plan} {ks : List Nat} {kl : List (Nat × List Zs)} {ls : List Nat} (r : Rnd P ks kl ls) {a b : Nat} (ha : a < P.length) (hb : b < P.length) : kat ls a = kat ls b ↔ kd P ks a = kd P ks b := by
  have h1 := r.at_ a ha
  have h2 := r.at_ b hb
  constructor
  · intro e
    rw [e, h2] at h1
    exact (Option.some.inj h1).symm
  · intro e
    rw [e] at h1
    exact idx_inj r.nd h1 h2
theorem round_ki {P : Plan} (W : Wf P) {ks : List Nat} {f : Nat} (h : KI P ks f) {kl : List (Nat × List Zs)} {ls : List Nat} (r : Rnd P ks kl ls) :
    KI P ls kl.length ∧ f ≤ kl.length ∧ (kl.length ≤ f → Fine P ls) := by
  have sub : ∀ i ∈ List.range f, i ∈ kl.map (·.1) := fun i hi => by
    obtain ⟨a, ha, e⟩ := h.all i (List.mem_range.mp hi)
    exact List.mem_map.mpr ⟨kd P ks a, List.mem_of_getElem? (r.at_ a ha), e⟩
  obtain ⟨c1, c2⟩ := perm_of_subset (List.nodup_range (n := f)) sub
  rw [List.length_range, List.length_map] at c1 c2
  refine ⟨⟨r.len, fun a ha => (List.getElem?_eq_some_iff.mp (r.at_ a ha)).1, fun i hi => ?_, fun a b ha hb e => (r.same ha hb).mpr (kd_eq W h ha hb e)⟩, c1, fun hle => ?_⟩
  · obtain ⟨a, ha, e⟩ := r.from_ kl[i] (List.getElem_mem hi)
    refine ⟨a, ha, idx_inj r.nd (r.at_ a ha) ?_⟩
    rw [List.getElem?_eq_getElem hi, e]
  · have pm := c2 hle
    have nd1 : (kl.map (·.1)).Nodup := pm.nodup_iff.mpr List.nodup_range
    have up : ∀ a b, a < P.length → b < P.length → kat ks a = kat ks b → kat ls a = kat ls b := fun a b ha hb e => by
      have h1 := r.at_ a ha
      have h2 := r.at_ b hb
      refine idx_inj nd1 (x := kat ks a) ?_ ?_
      · rw [List.getElem?_map, h1]; rfl
      · rw [List.getElem?_map, h2, e]; rfl
    have mv : ∀ a b, a < P.length → b < P.length → kat ls a = kat ls b → ∀ k c, go P a k = some c → ∃ d, go P b k = some d ∧ kat ls c = kat ls d := fun a b ha hb e k c g => by
      have hk := (r.same ha hb).mp e
      have hs : srt (told P ks a) = srt (told P ks b) := congrArg Prod.snd hk
      obtain ⟨s, hs1, hs2, hs3⟩ := (go_some W).mp g
      have hm : ({ s with to := kat ks s.to } : Zs) ∈ told P ks a := List.mem_map_of_mem hs1
      have hm2 : ({ s with to := kat ks s.to } : Zs) ∈ told P ks b := (srt_perm _).mem_iff.mp (hs ▸ (srt_perm _).mem_iff.mpr hm)
      obtain ⟨s', t1, t2⟩ := List.mem_map.mp hm2
      have tk : s'.key = s.key := by have z := congrArg Zs.key t2; exact z
      have tt : kat ks s'.to = kat ks s.to := by have z := congrArg Zs.to t2; exact z
      have g2 : go P b k = some s'.to := (go_some W).mpr ⟨s', t1, tk.trans hs2, rfl⟩
      refine ⟨s'.to, g2, ?_⟩
      rw [← hs3]
      exact up _ _ ((W.room a).2 s hs1) (go_lt W g2) tt.symm
    intro a b ha hb e
    funext row
    induction row generalizing a b with
    | nil => rfl
    | cons k row ih =>
      cases g : go P a k with
      | some c =>
        obtain ⟨d, g2, e2⟩ := mv a b ha hb e k c g
        rw [tr_cons g, tr_cons g2]
        exact ih c d (go_lt W g) (go_lt W g2) e2
      | none =>
        cases g2 : go P b k with
        | none => simp [tr, g, g2]
        | some d =>
          obtain ⟨c, g3, _⟩ := mv b a hb ha e.symm k d g2
          rw [g] at g3; cases g3
theorem ki_zero {P : Plan} (h : P ≠ []) : KI P (List.replicate P.length 0) 1 := by
  have hp : 0 < P.length := List.length_pos_iff.mpr h
  have z : ∀ a, kat (List.replicate P.length 0) a = 0 := fun a => by
    unfold kat
    rw [List.getD_eq_getElem?_getD, List.getElem?_replicate]
    split <;> rfl
  exact ⟨by simp, fun a _ => by rw [z]; exact Nat.one_pos, fun i hi => ⟨0, hp, by rw [z]; omega⟩, fun a b _ _ _ => by rw [z, z]⟩
end SV
namespace SV
open PySem PySem.Spec PyProof.Rows L2 VE PySem.W
def kyP (k : Ky) : PyData := .tuple [.str k.1, .str k.2.1, .str k.2.2]
theorem pyD_ky (k : Ky) : pyD (kyD k) = kyP k := by simp [pyD, toPy, toPys, kyP]
theorem ky_alike (s t : Ky) : alike (kyP s) (kyP t) = true := by simp [kyP, alike, alikeAll]
theorem kyP_inj {s t : Ky} (h : kyP s = kyP t) : s = t := by
  unfold kyP at h
  simp only [PyData.tuple.injEq, List.cons.injEq, PyData.str.injEq] at h
  obtain ⟨h1, h2, h3, _⟩ := h
  obtain ⟨a, b, c⟩ := s; obtain ⟨a', b', c'⟩ := t
  simp_all
def ksrt (l : List Ky) : List Ky := l.mergeSort (dataLe false kyP)
theorem toks_sp (s : Zs) : keyToks (spP s) = [.inl 1, .inr s.sg.cps.toList, .inl 1, .inr s.ln.cps.toList, .inl 1, .inr s.wd.cps.toList, .inl 1, .inl (s.to : Int), .inl 0] := by
  simp [spP, keyToks, keyToksAll]
theorem toks_ky (s : Zs) : keyToks (kyP s.key) = [.inl 1, .inr s.sg.cps.toList, .inl 1, .inr s.ln.cps.toList, .inl 1, .inr s.wd.cps.toList, .inl 0] := by
  simp [kyP, Zs.key, keyToks, keyToksAll]
theorem lt_key {s t : Zs} (h : s.key ≠ t.key) : lexLt itemOrd (keyToks (spP s)) (keyToks (spP t)) = lexLt itemOrd (keyToks (kyP s.key)) (keyToks (kyP t.key)) := by
  rw [toks_sp, toks_sp, toks_ky, toks_ky]
  by_cases h1 : s.sg.cps.toList = t.sg.cps.toList
  · by_cases h2 : s.ln.cps.toList = t.ln.cps.toList
    · by_cases h3 : s.wd.cps.toList = t.wd.cps.toList
      · exact absurd (by unfold Zs.key; rw [str_of_cps h1, str_of_cps h2, str_of_cps h3]) h
      · rw [h1, h2]
        simp only [lex_self (O := itemOrd)]
        rw [lex_diff (O := itemOrd) (fun z => h3 (Sum.inr.inj z)), lex_diff (O := itemOrd) (fun z => h3 (Sum.inr.inj z))]
    · rw [h1]
      simp only [lex_self (O := itemOrd)]
      rw [lex_diff (O := itemOrd) (fun z => h2 (Sum.inr.inj z)), lex_diff (O := itemOrd) (fun z => h2 (Sum.inr.inj z))]
  · simp only [lex_self (O := itemOrd)]
    rw [lex_diff (O := itemOrd) (fun z => h1 (Sum.inr.inj z)), lex_diff (O := itemOrd) (fun z => h1 (Sum.inr.inj z))]
theorem key_inj {l : List Zs} (nd : (l.map Zs.key).Nodup) : ∀ {a b : Zs}, a ∈ l → b ∈ l → a.key = b.key → a = b := by
  induction l with
  | nil => intro a b h; cases h
  | cons x l ih =>
    rw [List.map_cons, List.nodup_cons] at nd
    intro a b ha hb e
    rcases List.mem_cons.mp ha with ha' | ha'
    · rcases List.mem_cons.mp hb with hb' | hb'
      · rw [ha', hb']
      · exact absurd (by rw [← ha', e]; exact List.mem_map_of_mem (f := Zs.key) hb') nd.1
    · rcases List.mem_cons.mp hb with hb' | hb'
      · exact absurd (by rw [← hb', ← e]; exact List.mem_map_of_mem (f := Zs.key) ha') nd.1
      · exact ih nd.2 ha' hb' e
theorem srt_key {l : List Zs} (nd : (l.map Zs.key).Nodup) : (srt l).map Zs.key = ksrt (l.map Zs.key) := by
  refine sort_maps Zs.key fun a ha b hb => ?_
  show (!lexLt itemOrd (keyToks (spP b)) (keyToks (spP a))) = (!lexLt itemOrd (keyToks (kyP b.key)) (keyToks (kyP a.key)))
  by_cases h : b.key = a.key
  · have e := key_inj nd hb ha h
    subst e
    have i1 : lexLt itemOrd (keyToks (spP b)) (keyToks (spP b)) = false := PyProof.Rows.lex_irrefl (O := itemOrd) _
    have i2 : lexLt itemOrd (keyToks (kyP b.key)) (keyToks (kyP b.key)) = false := PyProof.Rows.lex_irrefl (O := itemOrd) _
    rw [i1, i2]
  · rw [lt_key h]
theorem ksrt_perm (l : List Ky) : (ksrt l).Perm l := List.mergeSort_perm l _
theorem ksrt_same {l m : List Ky} (p : l.Perm m) (nd : m.Nodup) : ksrt l = ksrt m :=
  sort_fix p (fun x hx y hy => by
    obtain ⟨s, _, rfl⟩ := List.mem_map.mp hx
    obtain ⟨t, _, rfl⟩ := List.mem_map.mp hy
    exact ky_alike s t) (fun a _ b _ h => kyP_inj h) nd
def plc (E : Nat → Nat → Bool) (o : List Nat) (g : Nat) : Option Nat := o.findIdx? fun x => E x g
def stpB (E : Nat → Nat → Bool) (st : List Nat × List Zs) (s : Zs) : List Nat × List Zs := match plc E st.1 s.to with
  | some i => (st.1, st.2 ++ [{ s with to := i }])
  | none => (st.1 ++ [s.to], st.2 ++ [{ s with to := st.1.length }])
def roomB (E : Nat → Nat → Bool) (P : Plan) (o : List Nat) (a : Nat) : List Nat × List Zs := (srt (P.getD a [])).foldl (stpB E) (o, [])
def bfs (E : Nat → Nat → Bool) (P : Plan) : Nat → List Nat → Plan → Plan
  | 0, _, f => f
  | n + 1, o, f => match o[f.length]? with
    | some a => bfs E P n (roomB E P o a).1 (f ++ [(roomB E P o a).2])
    | none => f
noncomputable def least (P : Plan) : Plan := open Classical in bfs (fun a b => decide (tr P a = tr P b)) P (P.length + 1) [0] []
end SV
namespace SV
open PySem PySem.Spec PyProof.Rows L2 VE PySem.W
theorem atI_map {α : Type} {f : α → D} {l : List α} {i : Nat} {x : α} (h : l[i]? = some x) : atI (l.map f) ((i : Nat) : Int) = some (f x) := atI_nat (by rw [List.getElem?_map, h]; rfl)
theorem ix_lst {α : Type} {f : α → D} {l : List α} {i : Nat} {x : α} (h : l[i]? = some x) : ixU (.lst (l.map f)) (.int ((i : Nat) : Int)) = some (.fz (f x)) := by
  show (atI (l.map f) ((i : Nat) : Int)).map Val.fz = _
  rw [atI_map h]; rfl
theorem ix_tup {α : Type} {f : α → D} {l : List α} {i : Nat} {x : α} (h : l[i]? = some x) : ixU (.tup (l.map f)) (.int ((i : Nat) : Int)) = some (.fz (f x)) := by
  show (atI (l.map f) ((i : Nat) : Int)).map Val.fz = _
  rw [atI_map h]; rfl
theorem plan_at {P : Plan} {a : Nat} (h : a < P.length) : ixU (planD P) (.int ((a : Nat) : Int)) = some (.fz (roomD (P.getD a []))) := by
  rw [List.getD_eq_getElem?_getD, List.getElem?_eq_getElem h]
  exact ix_lst (List.getElem?_eq_getElem h)
abbrev natsD (ks : List Nat) : D := .lst (ks.map fun (i : Nat) => .int (i : Int))
theorem nats_at {ks : List Nat} {a : Nat} (h : a < ks.length) : ixU (natsD ks) (.int ((a : Nat) : Int)) = some (.fz (.int ((kat ks a : Nat) : Int))) := by
  have : ks[a]? = some (kat ks a) := by
    unfold kat
    rw [List.getD_eq_getElem?_getD, List.getElem?_eq_getElem h]; rfl
  exact ix_lst this
theorem nobox_sp (l : List Zs) : (l.map spD).all noBox = true := nobox_tup (fun s : Zs => [.str s.sg, .str s.ln, .str s.wd, .int (s.to : Int)]) l
theorem opens_sp (l : List Zs) : opens (l.map spD) = l.map spD := opens_tup (fun s : Zs => [.str s.sg, .str s.ln, .str s.wd, .int (s.to : Int)]) l
theorem nobox_ky (l : List Ky) : (l.map kyD).all noBox = true := nobox_tup (fun k : Ky => [.str k.1, .str k.2.1, .str k.2.2]) l
theorem opens_ky (l : List Ky) : opens (l.map kyD) = l.map kyD := opens_tup (fun k : Ky => [.str k.1, .str k.2.1, .str k.2.2]) l
theorem nobox_room (l : Plan) : (l.map roomD).all noBox = true := nobox_lst (fun r : List Zs => r.map spD) l
theorem opens_room (l : Plan) : opens (l.map roomD) = l.map roomD := opens_lst (fun r : List Zs => r.map spD) l
theorem nobox_nat (l : List Nat) : (l.map fun (i : Nat) => D.int (i : Int)).all noBox = true := nobox_int (fun i : Nat => (i : Int)) l
theorem opens_nat (l : List Nat) : opens (l.map fun (i : Nat) => D.int (i : Int)) = l.map fun (i : Nat) => D.int (i : Int) := opens_int (fun i : Nat => (i : Int)) l
theorem toPy_sp (s : Zs) : toPy (spD s) = some (spP s) := by simp [toPy, toPys, spP]
theorem toPys_map {α : Type} {f : α → D} {g : α → PyData} (h : ∀ x, toPy (f x) = some (g x)) : ∀ l : List α, toPys (l.map f) = some (l.map g)
  | [] => by simp [toPys]
  | x :: l => by simp [toPys, h x, toPys_map h l]
theorem sp_depth (s : Zs) : (spP s).depth = 1 := by simp [spP, PyData.depth, PyData.depthAll]
theorem sorted_sp (l : List Zs) : sortedD [.lst (l.map spD)] = some (.fr (.lst ((srt l).map spD))) := by
  show ((toPys (l.map spD)).bind fun ps => if sortOk ps = true then some (Val.fr (.lst ((l.map spD).mergeSort (dataLe false pyD)))) else none) = _
  rw [toPys_map toPy_sp l, Option.bind_some, if_pos]
  · congr 3
    unfold srt
    symm
    refine sort_maps spD fun a _ b _ => ?_
    show (!lexLt itemOrd (keyToks (spP b)) (keyToks (spP a))) = (!lexLt itemOrd (keyToks (pyD (spD b))) (keyToks (pyD (spD a))))
    rw [pyD_sp, pyD_sp]
  · unfold sortOk
    have a1 : ((l.map spP).all fun p => (l.map spP).all fun q => alike p q) = true := by
      rw [List.all_eq_true]; intro p hp
      obtain ⟨s, _, rfl⟩ := List.mem_map.mp hp
      rw [List.all_eq_true]; intro q hq
      obtain ⟨t, _, rfl⟩ := List.mem_map.mp hq
      exact sp_alike s t
    have a2 : (l.map spP).all oneTup = true := by
      rw [List.all_eq_true]; intro p hp
      obtain ⟨s, _, rfl⟩ := List.mem_map.mp hp
      rfl
    have a3 : ((l.map spP).all fun p => decide (p.depth ≤ 20)) = true := by
      rw [List.all_eq_true]; intro p hp
      obtain ⟨s, _, rfl⟩ := List.mem_map.mp hp
      rw [sp_depth]; rfl
    rw [a1, a2, a3]; rfl
theorem toPy_ky (k : Ky) : toPy (kyD k) = some (kyP k) := by simp [toPy, toPys, kyP]
theorem ky_depth (k : Ky) : (kyP k).depth = 1 := by simp [kyP, PyData.depth, PyData.depthAll]
theorem sorted_ky (l : List Ky) : sortedD [.lst (l.map kyD)] = some (.fr (.lst ((ksrt l).map kyD))) := by
  show ((toPys (l.map kyD)).bind fun ps => if sortOk ps = true then some (Val.fr (.lst ((l.map kyD).mergeSort (dataLe false pyD)))) else none) = _
  rw [toPys_map toPy_ky l, Option.bind_some, if_pos]
  · congr 3
    unfold ksrt
    symm
    refine sort_maps kyD fun a _ b _ => ?_
    show (!lexLt itemOrd (keyToks (kyP b)) (keyToks (kyP a))) = (!lexLt itemOrd (keyToks (pyD (kyD b))) (keyToks (pyD (kyD a))))
    rw [pyD_ky, pyD_ky]
  · unfold sortOk
    have a1 : ((l.map kyP).all fun p => (l.map kyP).all fun q => alike p q) = true := by
      rw [List.all_eq_true]; intro p hp
      obtain ⟨s, _, rfl⟩ := List.mem_map.mp hp
      rw [List.all_eq_true]; intro q hq
      obtain ⟨t, _, rfl⟩ := List.mem_map.mp hq
      exact ky_alike s t
    have a2 : (l.map kyP).all oneTup = true := by
      rw [List.all_eq_true]; intro p hp
      obtain ⟨s, _, rfl⟩ := List.mem_map.mp hp
      rfl
    have a3 : ((l.map kyP).all fun p => decide (p.depth ≤ 20)) = true := by
      rw [List.all_eq_true]; intro p hp
      obtain ⟨s, _, rfl⟩ := List.mem_map.mp hp
      rw [ky_depth]; rfl
    rw [a1, a2, a3]; rfl
section
variable {κ : Type} {kD : κ → D} {kN : κ → NK}
abbrev dcD (kD : κ → D) (kvs : List (κ × D)) : List (D × D) := kvs.map fun p => (kD p.1, p.2)
theorem hasKey_enc (hk : ∀ k, nkD (kD k) = some (kN k)) (inj : ∀ a b, kN a = kN b → a = b) [DecidableEq κ] (p : κ × D) (k : κ) : hasKey (kD p.1, p.2) (kN k) = decide (p.1 = k) := by
  unfold hasKey
  rw [hk, Bool.eq_iff_iff, decide_eq_true_iff, decide_eq_true_iff, Option.some.injEq]
  exact ⟨inj _ _, fun h => by rw [h]⟩
theorem dGet_enc (hk : ∀ k, nkD (kD k) = some (kN k)) (inj : ∀ a b, kN a = kN b → a = b) [DecidableEq κ] (kvs : List (κ × D)) (k : κ) : dGet (dcD kD kvs) (kN k) = (kvs.find? fun p => decide (p.1 = k)).map (·.2) := by
  unfold dGet
  induction kvs with
  | nil => rfl
  | cons p r ih =>
    simp only [List.map_cons, List.find?_cons]
    rw [hasKey_enc hk inj]
    by_cases h : p.1 = k
    · simp [h]
    · simp only [h, decide_false]
      exact ih
theorem dPut_new (hk : ∀ k, nkD (kD k) = some (kN k)) (inj : ∀ a b, kN a = kN b → a = b) [DecidableEq κ] {kvs : List (κ × D)} {k : κ} (h : ∀ p ∈ kvs, p.1 ≠ k) (d : D) : dPut (dcD kD kvs) (kN k) (kD k) d = dcD kD (kvs ++ [(k, d)]) := by
  unfold dPut
  rw [if_neg]
  · simp [dcD]
  · rw [Bool.not_eq_true, List.any_eq_false]
    intro q hq
    obtain ⟨p, hp, rfl⟩ := List.mem_map.mp hq
    rw [hasKey_enc hk inj]
    simpa using h p hp
theorem dPut_old (hk : ∀ k, nkD (kD k) = some (kN k)) (inj : ∀ a b, kN a = kN b → a = b) [DecidableEq κ] {kvs : List (κ × D)} {k : κ} (h : ∃ p ∈ kvs, p.1 = k) (d : D) : dPut (dcD kD kvs) (kN k) (kD k) d = dcD kD (kvs.map fun p => if p.1 = k then (p.1, d) else p) := by
  unfold dPut
  rw [if_pos]
  · simp only [dcD, List.map_map]
    refine List.map_congr_left fun p _ => ?_
    simp only [Function.comp]
    rw [hasKey_enc hk inj]
    by_cases z : p.1 = k <;> simp [z]
  · rw [List.any_eq_true]
    obtain ⟨p, hp, e⟩ := h
    exact ⟨_, List.mem_map_of_mem hp, by rw [hasKey_enc hk inj]; exact decide_eq_true e⟩
end
abbrev kdD (k : Nat × List Zs) : D := .tup [.int ((k.1 : Nat) : Int), .tup (k.2.map spD)]
def spN (s : Zs) : NK := .tup [.text s.sg, .text s.ln, .text s.wd, .num (s.to : Int)]
def kdN (k : Nat × List Zs) : NK := .tup [.num ((k.1 : Nat) : Int), .tup (k.2.map spN)]
theorem nkDs_map {α : Type} {f : α → D} {g : α → NK} (h : ∀ x, nkD (f x) = some (g x)) : ∀ l : List α, nkDs (l.map f) = some (l.map g)
  | [] => by simp [nkDs]
  | x :: l => by simp [nkDs, h x, nkDs_map h l]
theorem nk_sp (s : Zs) : nkD (spD s) = some (spN s) := by simp [nkD, nkDs, spN]
theorem nk_kd (k : Nat × List Zs) : nkD (kdD k) = some (kdN k) := by simp [nkD, nkDs, kdN, nkDs_map nk_sp]
theorem spN_inj {s t : Zs} (h : spN s = spN t) : s = t := by
  unfold spN at h
  simp only [NestedKey.tup.injEq, List.cons.injEq, NestedKey.text.injEq, NestedKey.num.injEq] at h
  obtain ⟨h1, h2, h3, h4, _⟩ := h
  exact Zs.ext' (by unfold Zs.key; rw [h1, h2, h3]) (by omega)
theorem map_inj {α β : Type} {f : α → β} (inj : ∀ a b, f a = f b → a = b) : ∀ {l m : List α}, l.map f = m.map f → l = m
  | [], [], _ => rfl
  | [], _ :: _, h => by simp at h
  | _ :: _, [], h => by simp at h
  | a :: l, b :: m, h => by
    simp only [List.map_cons, List.cons.injEq] at h
    rw [inj a b h.1, map_inj inj h.2]
theorem kdN_inj (a b : Nat × List Zs) (h : kdN a = kdN b) : a = b := by
  unfold kdN at h
  simp only [NestedKey.tup.injEq, List.cons.injEq, NestedKey.num.injEq] at h
  obtain ⟨h1, h2, _⟩ := h
  exact Prod.ext (by omega) (map_inj (fun _ _ z => spN_inj z) h2)
theorem depthAll_le {n : Nat} : ∀ {l : List NK}, (∀ k ∈ l, k.depth ≤ n) → NestedKey.depthAll l ≤ n
  | [], _ => by simp [NestedKey.depthAll]
  | k :: l, h => by
    simp only [NestedKey.depthAll]
    have := h k List.mem_cons_self
    have := depthAll_le (l := l) fun k hk => h k (List.mem_cons_of_mem _ hk)
    omega
theorem dKey_kd (k : Nat × List Zs) : dKey 2 (kdD k) = some (kdN k) := by
  unfold dKey
  simp only [nk_kd, Option.bind_some]
  unfold kdN
  simp only []
  rw [if_pos]
  have h1 : NestedKey.depthAll (k.2.map spN) ≤ 1 := depthAll_le fun x hx => by
    obtain ⟨s, _, rfl⟩ := List.mem_map.mp hx
    simp [spN, NestedKey.depth, NestedKey.depthAll]
  simp only [NestedKey.depth, NestedKey.depthAll]
  omega
end SV
namespace SV
open PySem PySem.Spec PyProof.Rows L2 VE PySem.W
open Classical in
noncomputable def Eq' (P : Plan) (a b : Nat) : Bool := decide (tr P a = tr P b)
open Classical in
theorem Eq'_iff {P : Plan} {a b : Nat} : Eq' P a b = true ↔ tr P a = tr P b := by unfold Eq'; exact decide_eq_true_iff
theorem least_eq (P : Plan) : least P = bfs (Eq' P) P (P.length + 1) [0] [] := rfl
structure Ord (P : Plan) (o : List Nat) : Prop where
  lt : ∀ x ∈ o, x < P.length
  un : o.Pairwise fun a b => tr P a ≠ tr P b
theorem Ord.le {P : Plan} {o : List Nat} (h : Ord P o) : o.length ≤ P.length := by
  have nd : o.Nodup := h.un.imp fun z e => z (by rw [e])
  have := (perm_of_subset (r := o) (l := List.range P.length) nd fun x hx => List.mem_range.mpr (h.lt x hx)).1
  simpa using this
theorem plc_some {P : Plan} {o : List Nat} {g i : Nat} (h : plc (Eq' P) o g = some i) : ∃ x, o[i]? = some x ∧ tr P x = tr P g := by
  unfold plc at h
  rw [List.findIdx?_eq_some_iff_getElem] at h
  obtain ⟨hi, h1, _⟩ := h
  exact ⟨o[i], List.getElem?_eq_getElem hi, Eq'_iff.mp h1⟩
theorem plc_none {P : Plan} {o : List Nat} {g : Nat} (h : plc (Eq' P) o g = none) : ∀ x ∈ o, tr P x ≠ tr P g := by
  unfold plc at h
  rw [List.findIdx?_eq_none_iff] at h
  intro x hx e
  have := h x hx
  rw [Eq'_iff.mpr e] at this
  cases this
theorem Ord.snoc {P : Plan} {o : List Nat} {g : Nat} (h : Ord P o) (hg : g < P.length) (hn : plc (Eq' P) o g = none) : Ord P (o ++ [g]) := by
  refine ⟨fun x hx => ?_, ?_⟩
  · rcases List.mem_append.mp hx with hx | hx
    · exact h.lt x hx
    · rw [List.mem_singleton.mp hx]; exact hg
  · rw [List.pairwise_append]
    exact ⟨h.un, List.pairwise_singleton _ _, fun a ha b hb => by rw [List.mem_singleton.mp hb]; exact plc_none hn a ha⟩
theorem Ord.stp {P : Plan} {o : List Nat} {st : List Zs} {s : Zs} (h : Ord P o) (hs : s.to < P.length) : Ord P (stpB (Eq' P) (o, st) s).1 ∧ o.length ≤ (stpB (Eq' P) (o, st) s).1.length := by
  unfold stpB
  dsimp only
  split
  · exact ⟨h, Nat.le_refl _⟩
  · rename_i hn
    exact ⟨h.snoc hs hn, by simp⟩
theorem bfs_end {E : Nat → Nat → Bool} {P : Plan} {n : Nat} {o : List Nat} {f : Plan} (h : o.length ≤ f.length) : bfs E P n o f = f := by
  cases n with
  | zero => rfl
  | succ n => unfold bfs; rw [List.getElem?_eq_none h]
theorem bfs_step {E : Nat → Nat → Bool} {P : Plan} {n a : Nat} {o : List Nat} {f : Plan} (h : o[f.length]? = some a) : bfs E P (n + 1) o f = bfs E P n (roomB E P o a).1 (f ++ [(roomB E P o a).2]) := by
  conv => lhs; unfold bfs
  rw [h]
abbrev plO (ks : List Nat) (o : List Nat) : List (Nat × D) := o.zipIdx.map fun p => (kat ks p.1, D.int ((p.2 : Nat) : Int))
theorem plO_find {P : Plan} {ks : List Nat} {g : Nat} (hk : ∀ x, x < P.length → (kat ks x = kat ks g ↔ tr P x = tr P g)) : ∀ (o : List Nat) (k : Nat), (∀ x ∈ o, x < P.length) →
    (((o.zipIdx k).map fun p => (kat ks p.1, D.int ((p.2 : Nat) : Int))).find? fun p => decide (p.1 = kat ks g)).map (·.2) = (plc (Eq' P) o g).map fun i => D.int ((i + k : Nat) : Int)
  | [], k, _ => rfl
  | x :: o, k, h => by
    have hx := hk x (h x List.mem_cons_self)
    have ih := plO_find hk o (k + 1) fun y hy => h y (List.mem_cons_of_mem _ hy)
    simp only [List.zipIdx_cons, List.map_cons, List.find?_cons]
    unfold plc
    rw [List.findIdx?_cons]
    by_cases e : kat ks x = kat ks g
    · have e2 : Eq' P x g = true := Eq'_iff.mpr (hx.mp e)
      rw [e, decide_eq_true rfl, e2]
      simp
    · have e2 : Eq' P x g = false := by
        rw [Bool.eq_false_iff]; intro z; exact e (hx.mpr (Eq'_iff.mp z))
      simp only [e, e2, decide_false, Bool.false_eq_true, if_false]
      rw [ih]
      unfold plc
      rw [Option.map_map]
      congr 1
      funext i
      simp only [Function.comp]
      congr 2
      omega
abbrev natD (i : Nat) : D := .int ((i : Nat) : Int)
abbrev natN (i : Nat) : NK := .num ((i : Nat) : Int)
theorem nk_nat (i : Nat) : nkD (natD i) = some (natN i) := by simp [nkD]
theorem natN_inj (a b : Nat) (h : natN a = natN b) : a = b := by
  simp only [NestedKey.num.injEq] at h
  omega
theorem dKey_nat (i : Nat) : dKey 0 (natD i) = some (natN i) := rfl
theorem plO_at {P : Plan} {ks : List Nat} {o : List Nat} {g : Nat} (hk : ∀ x, x < P.length → (kat ks x = kat ks g ↔ tr P x = tr P g)) (ho : ∀ x ∈ o, x < P.length) : dGet (dcD natD (plO ks o)) (natN (kat ks g)) = (plc (Eq' P) o g).map natD := by
  rw [dGet_enc nk_nat natN_inj, plO_find hk o 0 ho]
  rfl
theorem plO_put {P : Plan} {ks : List Nat} {o : List Nat} {g : Nat} (hk : ∀ x, x < P.length → (kat ks x = kat ks g ↔ tr P x = tr P g)) (ho : ∀ x ∈ o, x < P.length) (hn : plc (Eq' P) o g = none) : dPut (dcD natD (plO ks o)) (natN (kat ks g)) (natD (kat ks g)) (.int ((o.length : Nat) : Int)) = dcD natD (plO ks (o ++ [g])) := by
  rw [dPut_new nk_nat natN_inj]
  · congr 1
    simp [plO, List.zipIdx_append]
  · intro p hp e
    obtain ⟨⟨x, j⟩, h3, rfl⟩ := List.mem_map.mp hp
    rw [List.mem_zipIdx_iff_getElem?] at h3
    have hx := List.mem_of_getElem? h3
    exact plc_none hn x hx ((hk x (ho x hx)).mp e)
end SV
namespace SV
open PySem PySem.Spec PyProof.Rows L2 VE PySem.W
def kyN (k : Ky) : NK := .tup [.text k.1, .text k.2.1, .text k.2.2]
theorem nk_ky (k : Ky) : nkD (kyD k) = some (kyN k) := by simp [nkD, nkDs, kyN]
theorem kyN_inj (a b : Ky) (h : kyN a = kyN b) : a = b := by
  unfold kyN at h
  simp only [NestedKey.tup.injEq, List.cons.injEq, NestedKey.text.injEq] at h
  obtain ⟨h1, h2, h3, _⟩ := h
  exact Prod.ext h1 (Prod.ext h2 h3)
theorem kyN_depth (k : Ky) : (kyN k).depth = 1 := by simp [kyN, NestedKey.depth, NestedKey.depthAll]
theorem ddup_nodup {α : Type} [DecidableEq α] : ∀ {l : List α}, l.Nodup → ddup l = l
  | [], _ => rfl
  | x :: l, h => by
    obtain ⟨h1, h2⟩ := List.nodup_cons.mp h
    unfold ddup
    rw [if_neg h1, ddup_nodup h2]
theorem ddup_len {α : Type} [DecidableEq α] : ∀ {l : List α}, (ddup l).length ≤ l.length
  | [] => Nat.le_refl _
  | x :: l => by
    have := ddup_len (l := l)
    unfold ddup
    split <;> simp <;> omega
theorem nodup_of_ddup {α : Type} [DecidableEq α] : ∀ {l : List α}, l.length ≤ (ddup l).length → l.Nodup
  | [], _ => List.nodup_nil
  | x :: l, h => by
    have h1 := ddup_len (l := l)
    unfold ddup at h
    split at h
    · simp at h; omega
    · rename_i hx
      simp at h
      exact List.nodup_cons.mpr ⟨hx, nodup_of_ddup h⟩
theorem setOk_ky {l : List Ky} (h : l.length < 64) : setOk (l.map kyD) = some (l.map kyN) := by
  unfold setOk
  rw [nkDs_map nk_ky, Option.bind_some, if_pos]
  refine ⟨?_, by rw [List.length_map]; exact h⟩
  unfold kindOk
  have : ((l.map kyN).all fun k => tupK k && decide (k.depth ≤ 8)) = true := by
    rw [List.all_eq_true]
    intro k hk
    obtain ⟨x, _, rfl⟩ := List.mem_map.mp hk
    rw [kyN_depth]; rfl
  rw [this, Bool.or_true]
theorem gls_ky {l : List Ky} (h : l.length < 64) : gLenSet (l.map kyD) = some (.fz (.int (((ddup (l.map kyN)).length : Nat) : Int))) := by
  unfold gLenSet; rw [setOk_ky h]; rfl
theorem map_nodup {α β : Type} {f : α → β} (inj : ∀ a b, f a = f b → a = b) {l : List α} (h : l.Nodup) : (l.map f).Nodup := by
  unfold List.Nodup
  rw [List.pairwise_map]
  exact h.imp fun z e => z (inj _ _ e)
theorem gls_nodup {l : List Ky} (h : l.length < 64) (nd : l.Nodup) : gLenSet (l.map kyD) = some (.fz (.int ((l.length : Nat) : Int))) := by
  rw [gls_ky h, ddup_nodup (map_nodup kyN_inj nd), List.length_map]
theorem sl3 (s : Zs) : slD (spD s) none (some 3) = some (.fz (kyD s.key)) := rfl
theorem sl3' (s : Zs) : slD (.tup [.str s.sg, .str s.ln, .str s.wd, .int (s.to : Int)]) none (some 3) = some (.fz (kyD s.key)) := rfl
end SV
namespace SV
open PySem PySem.Spec PyProof.Rows L2 VE PySem.W
def keysOf (P : Plan) (a : Nat) : List Ky := ksrt ((P.getD a []).map Zs.key)
theorem mem_keysOf {P : Plan} (W : Wf P) {a : Nat} {k : Ky} : k ∈ keysOf P a ↔ (go P a k).isSome = true := by
  unfold keysOf
  rw [(ksrt_perm _).mem_iff, List.mem_map, Option.isSome_iff_exists]
  constructor
  · rintro ⟨s, hs, e⟩; exact ⟨s.to, (go_some W).mpr ⟨s, hs, e, rfl⟩⟩
  · rintro ⟨b, h⟩
    obtain ⟨s, hs, e, _⟩ := (go_some W).mp h
    exact ⟨s, hs, e⟩
theorem keysOf_alike {P : Plan} (W : Wf P) {a b : Nat} (h : tr P a = tr P b) : keysOf P a = keysOf P b := by
  unfold keysOf
  refine ksrt_same ((List.perm_ext_iff_of_nodup (W.room a).1 (W.room b).1).mpr fun k => ?_) (W.room b).1
  have e : ∀ c, k ∈ (P.getD c []).map Zs.key ↔ tr P c [k] = true := fun c => by
    rw [tr_one, ← mem_keysOf W]
    unfold keysOf
    rw [(ksrt_perm _).mem_iff]
  rw [e, e, h]
structure Snd (P : Plan) (ml : List (Nat × Nat)) : Prop where
  nd : ml.Nodup
  lt : ∀ p ∈ ml, p.1 < P.length ∧ p.2 < P.length
  un : ∀ p ∈ ml, tr P p.1 ≠ tr P p.2
structure Seen (P : Plan) (ms ml : List (Nat × Nat)) (a b : Nat) : Prop where
  ky : keysOf P a ≠ keysOf P b → (a, b) ∈ ml
  to : ∀ k c d, go P a k = some c → go P b k = some d → (c, d) ∈ ms → (a, b) ∈ ml
theorem Seen.mono {P : Plan} {ms ml ml' : List (Nat × Nat)} {a b : Nat} (h : Seen P ms ml a b) (s : ∀ p ∈ ml, p ∈ ml') : Seen P ms ml' a b :=
  ⟨fun z => s _ (h.ky z), fun k c d h1 h2 h3 => s _ (h.to k c d h1 h2 h3)⟩
theorem Snd.le {P : Plan} {ml : List (Nat × Nat)} (h : Snd P ml) : ml.length ≤ P.length * P.length := by
  have := (perm_of_subset (r := ml) (l := (List.range P.length).flatMap fun a => (List.range P.length).map fun b => (a, b)) h.nd fun p hp => by
    obtain ⟨h1, h2⟩ := h.lt p hp
    exact List.mem_flatMap.mpr ⟨p.1, List.mem_range.mpr h1, List.mem_map.mpr ⟨p.2, List.mem_range.mpr h2, rfl⟩⟩).1
  have e : ∀ l : List Nat, (l.flatMap fun a => (List.range P.length).map fun b => (a, b)).length = l.length * P.length := fun l => by
    induction l with
    | nil => simp
    | cons x l ih => rw [List.flatMap_cons, List.length_append, ih, List.length_map, List.length_range, List.length_cons, Nat.succ_mul]; omega
  rw [e, List.length_range] at this
  exact this
theorem Snd.put {P : Plan} {ml : List (Nat × Nat)} (h : Snd P ml) {a b : Nat} (ha : a < P.length) (hb : b < P.length) (hu : tr P a ≠ tr P b) (hn : (a, b) ∉ ml) : Snd P (ml ++ [(a, b)]) := by
  refine ⟨?_, fun p hp => ?_, fun p hp => ?_⟩
  · rw [List.nodup_append]
    exact ⟨h.nd, by simp, fun x hx y hy e => hn (by rw [← List.mem_singleton.mp hy, ← e]; exact hx)⟩
  · rcases List.mem_append.mp hp with hp | hp
    · exact h.lt p hp
    · rw [List.mem_singleton.mp hp]; exact ⟨ha, hb⟩
  · rcases List.mem_append.mp hp with hp | hp
    · exact h.un p hp
    · rw [List.mem_singleton.mp hp]; exact hu
theorem marks_all {P : Plan} (W : Wf P) {ml : List (Nat × Nat)} (h : Snd P ml) (c : ∀ a b, a < P.length → b < P.length → Seen P ml ml a b) {a b : Nat} (ha : a < P.length) (hb : b < P.length) : (a, b) ∈ ml ↔ tr P a ≠ tr P b := by
  refine ⟨fun z => h.un _ z, fun z => ?_⟩
  have go' : ∀ (row : List Ky) (a b : Nat), a < P.length → b < P.length → (a, b) ∉ ml → tr P a row = tr P b row := fun row => by
    induction row with
    | nil => intros; rfl
    | cons k row ih =>
      intro a b ha hb hn
      have hk : keysOf P a = keysOf P b := by
        by_cases e : keysOf P a = keysOf P b
        · exact e
        · exact absurd ((c a b ha hb).ky e) hn
      have hs : (go P a k).isSome = (go P b k).isSome := by
        rw [Bool.eq_iff_iff, ← mem_keysOf W, ← mem_keysOf W, hk]
      cases g1 : go P a k with
      | none =>
        cases g2 : go P b k with
        | none => simp [tr, g1, g2]
        | some d => rw [g1, g2] at hs; cases hs
      | some x =>
        cases g2 : go P b k with
        | none => rw [g1, g2] at hs; cases hs
        | some d =>
          rw [tr_cons g1, tr_cons g2]
          exact ih x d (go_lt W g1) (go_lt W g2) fun m => hn ((c a b ha hb).to k x d g1 g2 m)
  by_cases m : (a, b) ∈ ml
  · exact m
  · exact absurd (funext fun row => go' row a b ha hb m) z
abbrev optD : Option Nat → D
  | none => .non
  | some n => .int ((n : Nat) : Int)
abbrev prD (p : Nat × Option Nat) : D := .tup [.int ((p.1 : Nat) : Int), optD p.2]
def optN : Option Nat → NK
  | none => .none
  | some n => .num ((n : Nat) : Int)
def prN (p : Nat × Option Nat) : NK := .tup [.num ((p.1 : Nat) : Int), optN p.2]
theorem nk_pr (p : Nat × Option Nat) : nkD (prD p) = some (prN p) := by
  obtain ⟨a, b⟩ := p
  cases b <;> simp [nkD, nkDs, prN, optN]
theorem prN_inj (p q : Nat × Option Nat) (h : prN p = prN q) : p = q := by
  obtain ⟨a, b⟩ := p; obtain ⟨c, d⟩ := q
  unfold prN at h
  simp only [NestedKey.tup.injEq, List.cons.injEq, NestedKey.num.injEq] at h
  obtain ⟨h1, h2, _⟩ := h
  refine Prod.ext (by show a = c; omega) ?_
  cases b <;> cases d <;> simp only [optN, NestedKey.num.injEq, reduceCtorEq] at h2
  · rfl
  · simp only []; congr 1; omega
theorem dKey_pr (p : Nat × Option Nat) : dKey 2 (prD p) = some (prN p) := by
  unfold dKey
  simp only [nk_pr, Option.bind_some]
  obtain ⟨a, b⟩ := p
  cases b <;> rfl
abbrev mkL (ml : List (Nat × Nat)) : List ((Nat × Option Nat) × D) := ml.map fun p => ((p.1, some p.2), .int 1)
abbrev mkD (ml : List (Nat × Nat)) : D := .dct 2 (dcD prD (mkL ml))
theorem mk_find {ml : List (Nat × Nat)} {q : Nat × Option Nat} : (((mkL ml).find? fun p => decide (p.1 = q)).map (·.2)).isSome = decide (∃ b, q.2 = some b ∧ (q.1, b) ∈ ml) := by
  rw [Option.isSome_map, Bool.eq_iff_iff, decide_eq_true_iff, List.find?_isSome]
  constructor
  · rintro ⟨p, hp, e⟩
    obtain ⟨r, hr, rfl⟩ := List.mem_map.mp hp
    have e := of_decide_eq_true e
    exact ⟨r.2, by rw [← e], by rw [← e]; exact hr⟩
  · rintro ⟨b, h1, h2⟩
    exact ⟨((q.1, some b), .int 1), List.mem_map.mpr ⟨(q.1, b), h2, rfl⟩, by rw [← h1]; exact decide_eq_true rfl⟩
theorem mk_in {ml : List (Nat × Nat)} {q : Nat × Option Nat} : inU (prD q) (mkD ml) = some (.fz (.bl (decide (∃ b, q.2 = some b ∧ (q.1, b) ∈ ml)))) := by
  show (dKey 2 (prD q)).map (fun n => Val.fz (.bl ((dGet (dcD prD (mkL ml)) n).isSome))) = _
  rw [dKey_pr, Option.map_some, dGet_enc nk_pr prN_inj, mk_find]
theorem mk_notin {ml : List (Nat × Nat)} {q : Nat × Option Nat} : notInU (prD q) (mkD ml) = some (.fz (.bl (!decide (∃ b, q.2 = some b ∧ (q.1, b) ∈ ml)))) := by
  show (dKey 2 (prD q)).map (fun n => Val.fz (.bl (!(dGet (dcD prD (mkL ml)) n).isSome))) = _
  rw [dKey_pr, Option.map_some, dGet_enc nk_pr prN_inj, mk_find]
theorem mk_put_new {ml : List (Nat × Nat)} {a b : Nat} (h : (a, b) ∉ ml) : dPut (dcD prD (mkL ml)) (prN (a, some b)) (prD (a, some b)) (.int 1) = dcD prD (mkL (ml ++ [(a, b)])) := by
  rw [dPut_new nk_pr prN_inj]
  · simp [mkL]
  · intro p hp e
    obtain ⟨r, hr, rfl⟩ := List.mem_map.mp hp
    simp only [Prod.mk.injEq, Option.some.injEq] at e
    exact h (by rw [← e.1, ← e.2]; exact hr)
theorem mk_put_old {ml : List (Nat × Nat)} {a b : Nat} (h : (a, b) ∈ ml) : dPut (dcD prD (mkL ml)) (prN (a, some b)) (prD (a, some b)) (.int 1) = dcD prD (mkL ml) := by
  rw [dPut_old nk_pr prN_inj]
  · congr 1
    simp only [mkL, List.map_map]
    refine List.map_congr_left fun p _ => ?_
    simp only [Function.comp]
    split
    · rfl
    · rfl
  · exact ⟨_, List.mem_map_of_mem h, rfl⟩
theorem mk_len (ml : List (Nat × Nat)) : (dcD prD (mkL ml)).length = ml.length := by simp [mkL]
end SV
namespace SV
open PySem PySem.Spec PyProof.Rows L2 VE PySem.W
open Classical in
theorem plc_tr {P : Plan} {o : List Nat} {g : Nat} : plc (Eq' P) o g = (o.map (tr P)).findIdx? (fun t => decide (t = tr P g)) := by
  unfold plc
  rw [List.findIdx?_map]
  congr 1
theorem plc_eq {P Q : Plan} {o o' : List Nat} {g g' : Nat} (h : o.map (tr P) = o'.map (tr Q)) (e : tr P g = tr Q g') : plc (Eq' P) o g = plc (Eq' Q) o' g' := by
  rw [plc_tr, plc_tr, h, e]
theorem fold_same {P Q : Plan} : ∀ (l m : List Zs) (o o' : List Nat) (st : List Zs), l.map (fun s => (s.key, tr P s.to)) = m.map (fun s => (s.key, tr Q s.to)) → o.map (tr P) = o'.map (tr Q) →
    (l.foldl (stpB (Eq' P)) (o, st)).2 = (m.foldl (stpB (Eq' Q)) (o', st)).2 ∧ (l.foldl (stpB (Eq' P)) (o, st)).1.map (tr P) = (m.foldl (stpB (Eq' Q)) (o', st)).1.map (tr Q)
  | [], [], o, o', st, _, h => ⟨rfl, h⟩
  | [], _ :: _, _, _, _, h, _ => by simp at h
  | _ :: _, [], _, _, _, h, _ => by simp at h
  | s :: l, t :: m, o, o', st, h1, h2 => by
    rw [List.map_cons, List.map_cons, List.cons.injEq, Prod.mk.injEq] at h1
    obtain ⟨⟨hk, ht⟩, h1⟩ := h1
    have hl : o.length = o'.length := by simpa using congrArg List.length h2
    have hp := plc_eq h2 ht
    rw [List.foldl_cons, List.foldl_cons]
    unfold stpB
    dsimp only
    rw [hp]
    cases hq : plc (Eq' Q) o' t.to with
    | some i =>
      have e : ({ s with to := i } : Zs) = { t with to := i } := Zs.ext' (by simpa [Zs.key] using hk) rfl
      dsimp only
      rw [e]
      exact fold_same l m o o' _ h1 h2
    | none =>
      have e : ({ s with to := o.length } : Zs) = { t with to := o'.length } := Zs.ext' (by simpa [Zs.key] using hk) hl
      dsimp only
      rw [e]
      exact fold_same l m _ _ _ h1 (by rw [List.map_append, List.map_append, h2]; simp [ht])
theorem pair_map {α β γ : Type} {k : α → β} {f g : α → γ} : ∀ {l m : List α}, l.map k = m.map k → (∀ s ∈ l, ∀ t ∈ m, k s = k t → f s = g t) → l.map (fun s => (k s, f s)) = m.map (fun s => (k s, g s))
  | [], [], _, _ => rfl
  | [], _ :: _, h, _ => by simp at h
  | _ :: _, [], h, _ => by simp at h
  | s :: l, t :: m, h, hf => by
    rw [List.map_cons, List.map_cons, List.cons.injEq] at h
    rw [List.map_cons, List.map_cons, h.1, hf s List.mem_cons_self t List.mem_cons_self h.1, pair_map h.2 fun x hx y hy => hf x (List.mem_cons_of_mem _ hx) y (List.mem_cons_of_mem _ hy)]
theorem key_iff {P : Plan} (W : Wf P) {a : Nat} {k : Ky} : k ∈ (P.getD a []).map Zs.key ↔ tr P a [k] = true := by
  rw [tr_one, ← mem_keysOf W]
  unfold keysOf
  rw [(ksrt_perm _).mem_iff]
theorem room_same {P Q : Plan} (W : Wf P) (V : Wf Q) {a b : Nat} (h : tr P a = tr Q b) : (srt (P.getD a [])).map (fun s => (s.key, tr P s.to)) = (srt (Q.getD b [])).map (fun s => (s.key, tr Q s.to)) := by
  refine pair_map ?_ fun s hs t ht e => ?_
  · rw [srt_key (W.room a).1, srt_key (V.room b).1]
    refine ksrt_same ((List.perm_ext_iff_of_nodup (W.room a).1 (V.room b).1).mpr fun k => ?_) (V.room b).1
    rw [key_iff W, key_iff V, h]
  · have hs := (srt_perm _).mem_iff.mp hs
    have ht := (srt_perm _).mem_iff.mp ht
    have g1 : go P a s.key = some s.to := (go_some W).mpr ⟨s, hs, rfl, rfl⟩
    have g2 : go Q b s.key = some t.to := (go_some V).mpr ⟨t, ht, e.symm, rfl⟩
    obtain ⟨d, hd, h3⟩ := alike_go h g1
    rw [hd] at g2
    cases g2
    exact h3
theorem Ord.fold {P : Plan} : ∀ (l : List Zs) (o : List Nat) (st : List Zs), Ord P o → (∀ s ∈ l, s.to < P.length) → Ord P (l.foldl (stpB (Eq' P)) (o, st)).1
  | [], o, st, h, _ => h
  | s :: l, o, st, h, hl => by
    rw [List.foldl_cons]
    have h1 := (h.stp (st := st) (hl s List.mem_cons_self)).1
    generalize stpB (Eq' P) (o, st) s = p at h1
    exact Ord.fold l p.1 p.2 h1 fun x hx => hl x (List.mem_cons_of_mem _ hx)
theorem Ord.room {P : Plan} (W : Wf P) {o : List Nat} {a : Nat} (h : Ord P o) : Ord P (roomB (Eq' P) P o a).1 :=
  Ord.fold _ o [] h fun s hs => (W.room a).2 s ((srt_perm _).mem_iff.mp hs)
theorem bfs_same {P Q : Plan} (W : Wf P) (V : Wf Q) : ∀ (n m : Nat) (o o' : List Nat) (f : Plan), o.map (tr P) = o'.map (tr Q) → Ord P o → Ord Q o' → P.length < n + f.length → Q.length < m + f.length → bfs (Eq' P) P n o f = bfs (Eq' Q) Q m o' f
  | 0, m, o, o', f, h, h1, h2, hn, hm => by
    have hl : o.length = o'.length := by simpa using congrArg List.length h
    have := h1.le
    rw [bfs_end (by omega), bfs_end (by omega)]
  | n + 1, m, o, o', f, h, h1, h2, hn, hm => by
    have hl : o.length = o'.length := by simpa using congrArg List.length h
    by_cases hf : o.length ≤ f.length
    · rw [bfs_end hf, bfs_end (by omega)]
    · have l1 := h1.le
      have l2 := h2.le
      obtain ⟨m', rfl⟩ : ∃ m', m = m' + 1 := ⟨m - 1, by omega⟩
      have ha : o[f.length]? = some (o[f.length]'(by omega)) := List.getElem?_eq_getElem (by omega)
      have hb : o'[f.length]? = some (o'[f.length]'(by omega)) := List.getElem?_eq_getElem (by omega)
      have hab : tr P (o[f.length]'(by omega)) = tr Q (o'[f.length]'(by omega)) := by
        have := congrArg (fun l => l[f.length]?) h
        simp only [List.getElem?_map, ha, hb, Option.map_some, Option.some.injEq] at this
        exact this
      generalize o[f.length]'(by omega) = a at ha hab
      generalize o'[f.length]'(by omega) = b at hb hab
      rw [bfs_step ha, bfs_step hb]
      obtain ⟨e1, e2⟩ := fold_same (srt (P.getD a [])) (srt (Q.getD b [])) o o' [] (room_same W V hab) h
      have e1 : (roomB (Eq' P) P o a).2 = (roomB (Eq' Q) Q o' b).2 := e1
      have e2 : (roomB (Eq' P) P o a).1.map (tr P) = (roomB (Eq' Q) Q o' b).1.map (tr Q) := e2
      rw [e1]
      exact bfs_same W V n m' _ _ _ e2 (h1.room W) (h2.room V) (by simp; omega) (by simp; omega)
theorem least_same {P Q : Plan} (W : Wf P) (V : Wf Q) (hp : P ≠ []) (hq : Q ≠ []) (h : tr P 0 = tr Q 0) : least P = least Q := by
  have h1 := List.length_pos_iff.mpr hp
  have h2 := List.length_pos_iff.mpr hq
  rw [least_eq, least_eq]
  exact bfs_same W V _ _ _ _ _ (by simp [h]) ⟨fun x hx => by rw [List.mem_singleton.mp hx]; exact h1, List.pairwise_singleton _ _⟩ ⟨fun x hx => by rw [List.mem_singleton.mp hx]; exact h2, List.pairwise_singleton _ _⟩ (by simp) (by simp)
end SV
namespace SV
open PySem PySem.Spec PyProof.Rows L2 VE PySem.W
noncomputable def lst1 (P : Plan) (o : List Nat) (a : Nat) : List Zs := (srt (P.getD a [])).map fun s => { s with to := (plc (Eq' P) o s.to).getD 0 }
theorem plc_more {P : Plan} {o m : List Nat} {g i : Nat} (h : plc (Eq' P) o g = some i) : plc (Eq' P) (o ++ m) g = some i := by
  unfold plc at h ⊢
  rw [List.findIdx?_append, h]; rfl
theorem plc_self {P : Plan} {o : List Nat} {g : Nat} (h : plc (Eq' P) o g = none) : plc (Eq' P) (o ++ [g]) g = some o.length := by
  unfold plc at h ⊢
  rw [List.findIdx?_append, h]
  have : Eq' P g g = true := Eq'_iff.mpr rfl
  simp [this]
theorem fold_at {P : Plan} : ∀ (l : List Zs) (o : List Nat) (st : List Zs), ∃ m, (l.foldl (stpB (Eq' P)) (o, st)).1 = o ++ m ∧ (l.foldl (stpB (Eq' P)) (o, st)).2 = st ++ l.map (fun s => { s with to := (plc (Eq' P) (l.foldl (stpB (Eq' P)) (o, st)).1 s.to).getD 0 }) ∧ ∀ s ∈ l, (plc (Eq' P) (l.foldl (stpB (Eq' P)) (o, st)).1 s.to).isSome = true
  | [], o, st => ⟨[], by simp, by simp, fun s hs => absurd hs (List.not_mem_nil)⟩
  | s :: l, o, st => by
    rw [List.foldl_cons]
    cases hp : plc (Eq' P) o s.to with
    | some i =>
      have e : stpB (Eq' P) (o, st) s = (o, st ++ [{ s with to := i }]) := by unfold stpB; dsimp only; rw [hp]
      rw [e]
      obtain ⟨m, h1, h2, h3⟩ := fold_at (P := P) l o (st ++ [{ s with to := i }])
      have hq : plc (Eq' P) (l.foldl (stpB (Eq' P)) (o, st ++ [{ s with to := i }])).1 s.to = some i := by rw [h1]; exact plc_more hp
      refine ⟨m, h1, ?_, fun x hx => ?_⟩
      · rw [List.map_cons, hq, h2]
        rw [List.append_assoc]
        congr 1
      · rcases List.mem_cons.mp hx with rfl | hx
        · rw [hq]; rfl
        · exact h3 x hx
    | none =>
      have e : stpB (Eq' P) (o, st) s = (o ++ [s.to], st ++ [{ s with to := o.length }]) := by unfold stpB; dsimp only; rw [hp]
      rw [e]
      obtain ⟨m, h1, h2, h3⟩ := fold_at (P := P) l (o ++ [s.to]) (st ++ [{ s with to := o.length }])
      have hq : plc (Eq' P) (l.foldl (stpB (Eq' P)) (o ++ [s.to], st ++ [{ s with to := o.length }])).1 s.to = some o.length := by rw [h1]; exact plc_more (plc_self hp)
      refine ⟨s.to :: m, by rw [h1]; simp, ?_, fun x hx => ?_⟩
      · rw [List.map_cons, hq, h2]
        rw [List.append_assoc]
        congr 1
      · rcases List.mem_cons.mp hx with rfl | hx
        · rw [hq]; rfl
        · exact h3 x hx
structure Bi (P : Plan) (o : List Nat) (f : Plan) : Prop where
  ord : Ord P o
  hd : o[0]? = some 0
  le : f.length ≤ o.length
  rm : ∀ i a, i < f.length → o[i]? = some a → f[i]? = some (lst1 P o a) ∧ ∀ s ∈ P.getD a [], (plc (Eq' P) o s.to).isSome = true
theorem lst1_more {P : Plan} {o m : List Nat} {a : Nat} (h : ∀ s ∈ P.getD a [], (plc (Eq' P) o s.to).isSome = true) : lst1 P (o ++ m) a = lst1 P o a := by
  unfold lst1
  refine List.map_congr_left fun s hs => ?_
  obtain ⟨i, hi⟩ := Option.isSome_iff_exists.mp (h s ((srt_perm _).mem_iff.mp hs))
  rw [plc_more hi, hi]
theorem bfs_bi {P : Plan} (W : Wf P) : ∀ (n : Nat) (o : List Nat) (f : Plan), Bi P o f → P.length < n + f.length → ∃ o', Bi P o' (bfs (Eq' P) P n o f) ∧ o'.length = (bfs (Eq' P) P n o f).length
  | 0, o, f, h, hn => ⟨o, h, by have := h.ord.le; have := h.le; show o.length = f.length; omega⟩
  | n + 1, o, f, h, hn => by
    by_cases hf : o.length ≤ f.length
    · rw [bfs_end hf]
      exact ⟨o, h, by have := h.le; omega⟩
    · have ha : o[f.length]? = some (o[f.length]'(by omega)) := List.getElem?_eq_getElem (by omega)
      generalize o[f.length]'(by omega) = a at ha
      rw [bfs_step ha]
      obtain ⟨m, h1, h2, h3⟩ := fold_at (P := P) (srt (P.getD a [])) o []
      have h1 : (roomB (Eq' P) P o a).1 = o ++ m := h1
      have h2 : (roomB (Eq' P) P o a).2 = lst1 P (o ++ m) a := by
        rw [← h1]
        unfold lst1
        exact h2
      have h3 : ∀ s ∈ P.getD a [], (plc (Eq' P) (o ++ m) s.to).isSome = true := fun s hs => by
        rw [← h1]
        exact h3 s ((srt_perm _).mem_iff.mpr hs)
      have ho := h.ord.room (a := a) W
      rw [h1] at ho ⊢
      rw [h2]
      refine bfs_bi W n _ _ ⟨ho, ?_, by simp; omega, fun i b hi hb => ?_⟩ (by simp; omega)
      · rw [List.getElem?_append_left (by omega)]; exact h.hd
      · rw [List.length_append, List.length_singleton] at hi
        rw [List.getElem?_append_left (by omega)] at hb
        by_cases z : i < f.length
        · obtain ⟨r1, r2⟩ := h.rm i b z hb
          rw [List.getElem?_append_left z, r1, lst1_more r2]
          refine ⟨rfl, fun s hs => ?_⟩
          obtain ⟨j, hj⟩ := Option.isSome_iff_exists.mp (r2 s hs)
          rw [plc_more hj]; rfl
        · have e : i = f.length := by omega
          subst e
          rw [ha] at hb
          cases hb
          rw [List.getElem?_append_right (Nat.le_refl _)]
          exact ⟨by simp, h3⟩
theorem least_bi {P : Plan} (W : Wf P) (hp : P ≠ []) : ∃ o, Bi P o (least P) ∧ o.length = (least P).length := by
  have h1 := List.length_pos_iff.mpr hp
  rw [least_eq]
  refine bfs_bi W _ _ _ ⟨⟨fun x hx => by rw [List.mem_singleton.mp hx]; exact h1, List.pairwise_singleton _ _⟩, rfl, Nat.zero_le _, fun i a hi => absurd hi (Nat.not_lt_zero _)⟩ (by simp)
section
variable {P F : Plan} {o : List Nat}
theorem lst1_key (a : Nat) : (lst1 P o a).map Zs.key = (srt (P.getD a [])).map Zs.key := by
  unfold lst1
  rw [List.map_map]; rfl
theorem bi_wf (W : Wf P) (h : Bi P o F) (hl : o.length = F.length) : Wf F := by
  have all : ∀ r ∈ F, ∃ a, r = lst1 P o a ∧ ∀ s ∈ P.getD a [], (plc (Eq' P) o s.to).isSome = true := fun r hr => by
    obtain ⟨i, hi, e⟩ := List.mem_iff_getElem.mp hr
    obtain ⟨r1, r2⟩ := h.rm i (o[i]'(by omega)) hi (List.getElem?_eq_getElem (by omega))
    rw [List.getElem?_eq_getElem hi] at r1
    exact ⟨_, e.symm.trans (Option.some.inj r1), r2⟩
  refine ⟨fun r hr s hs => ?_, fun r hr => ?_⟩
  · obtain ⟨a, rfl, h2⟩ := all r hr
    obtain ⟨t, ht, rfl⟩ := List.mem_map.mp hs
    obtain ⟨j, hj⟩ := Option.isSome_iff_exists.mp (h2 t ((srt_perm _).mem_iff.mp ht))
    show (plc (Eq' P) o t.to).getD 0 < F.length
    rw [hj]
    obtain ⟨x, hx, _⟩ := plc_some hj
    have := (List.getElem?_eq_some_iff.mp hx).1
    show j < F.length
    omega
  · obtain ⟨a, rfl, h2⟩ := all r hr
    rw [lst1_key, srt_key (W.room a).1]
    exact (ksrt_perm _).nodup_iff.mpr (W.room a).1
theorem bi_tr (W : Wf P) (h : Bi P o F) (hl : o.length = F.length) : ∀ (row : List Ky) (i a : Nat), o[i]? = some a → tr F i row = tr P a row
  | [], _, _, _ => rfl
  | k :: row, i, a, ha => by
    have V := bi_wf W h hl
    have hi : i < F.length := by have := (List.getElem?_eq_some_iff.mp ha).1; omega
    obtain ⟨r1, r2⟩ := h.rm i a hi ha
    have eF : F.getD i [] = lst1 P o a := by rw [List.getD_eq_getElem?_getD, r1]; rfl
    cases g : go P a k with
    | none =>
      have g2 : go F i k = none := by
        cases g2 : go F i k with
        | none => rfl
        | some d =>
          obtain ⟨s, hs, e1, _⟩ := (go_some V).mp g2
          rw [eF] at hs
          obtain ⟨t, ht, rfl⟩ := List.mem_map.mp hs
          have := (go_some W (a := a) (k := k) (b := t.to)).mpr ⟨t, (srt_perm _).mem_iff.mp ht, e1, rfl⟩
          rw [g] at this
          cases this
      rw [tr, g2, tr, g]
    | some b =>
      obtain ⟨s, hs, e1, e2⟩ := (go_some W).mp g
      obtain ⟨j, hj⟩ := Option.isSome_iff_exists.mp (r2 s hs)
      obtain ⟨x, hx, ex⟩ := plc_some hj
      have g2 : go F i k = some j := by
        refine (go_some V).mpr ⟨{ s with to := j }, ?_, e1, rfl⟩
        rw [eF]
        exact List.mem_map.mpr ⟨s, (srt_perm _).mem_iff.mpr hs, by rw [hj]; rfl⟩
      rw [tr_cons g2, tr_cons g, bi_tr W h hl row j x hx, ex, e2]
end
theorem least_wf {P : Plan} (W : Wf P) (hp : P ≠ []) : Wf (least P) := by
  obtain ⟨o, h, hl⟩ := least_bi W hp
  exact bi_wf W h hl
theorem least_tr {P : Plan} (W : Wf P) (hp : P ≠ []) : tr (least P) 0 = tr P 0 := by
  obtain ⟨o, h, hl⟩ := least_bi W hp
  exact funext fun row => bi_tr W h hl row 0 0 h.hd
theorem least_ne {P : Plan} (W : Wf P) (hp : P ≠ []) : least P ≠ [] := by
  obtain ⟨o, h, hl⟩ := least_bi W hp
  intro e
  rw [e] at hl
  have := h.hd
  rw [List.eq_nil_of_length_eq_zero hl] at this
  cases this
theorem least_le {P : Plan} (W : Wf P) (hp : P ≠ []) : (least P).length ≤ P.length := by
  obtain ⟨o, h, hl⟩ := least_bi W hp
  rw [← hl]; exact h.ord.le
theorem least_least {P : Plan} (W : Wf P) (hp : P ≠ []) : least (least P) = least P :=
  least_same (least_wf W hp) W (least_ne W hp) hp (least_tr W hp)
theorem least_iff {P Q : Plan} (W : Wf P) (V : Wf Q) (hp : P ≠ []) (hq : Q ≠ []) : least P = least Q ↔ tr P 0 = tr Q 0 :=
  ⟨fun h => by rw [← least_tr W hp, h, least_tr V hq], least_same W V hp hq⟩
end SV
namespace LW
open PySem PySem.Spec PyProof.Rows L2 VE
def topS (i : Nat) : Stmt := PySem.Challenge.pw_emptyfirst_k10_rows_of_steps.main.body.getD i (.Pass ⟨0, 0, 0, 0⟩)
def memB : Stmt → List Stmt
  | .ClassDef _ _ _ b _ _ _ _ _ _ _ => b
  | _ => []
def memS (i j : Nat) : Stmt := (memB (topS i)).getD j (.Pass ⟨0, 0, 0, 0⟩)
def isT (c : Str) (d : Str) : Option Bool := if d = c then some true else none
abbrev s_is_name : Stmt := topS 8
abbrev s_check_name : Stmt := topS 9
abbrev s_check_rooms : Stmt := topS 10
abbrev s_room_kinds : Stmt := topS 11
abbrev s_least_rooms : Stmt := topS 12
abbrev s_Service___init : Stmt := memS 15 0
abbrev s_next_room : Stmt := topS 17
abbrev s_Service_has : Stmt := memS 15 10
abbrev s_l_mint : Stmt := topS 19
abbrev s_l_coin : Stmt := topS 20
abbrev s_l_labels : Stmt := topS 21
abbrev s_l_room_steps : Stmt := topS 22
abbrev s_l_plan_of : Stmt := topS 23
abbrev s_l_made_service : Stmt := topS 26
abbrev s_l_goal : Stmt := topS 27
abbrev s_l_has_row : Stmt := topS 31
abbrev s_l_walk : Stmt := topS 32
abbrev s_l_bent_row : Stmt := topS 33
abbrev s_l_fits : Stmt := topS 34
abbrev s_lawdef : Stmt := topS 35
abbrev s_ini : Stmt := memS 2 0
theorem sc_ini : FnScope ["self", "value"] ["self", "value"] (defScope s_ini) := ⟨rfl, rfl, rfl, by decide +kernel, rfl, by decide +kernel, by decide +kernel⟩
def errL : List Str := ["DoubleStep", "InvalidName", "InvalidStep"]
structure TX (K : PySem.W.Frag) (mg : Str → Option Value) (ad ca : Nat → Addr) (fd : Nat → FuncData) : Prop where
  n_abs : mg "abs" = none
  n_all : mg "all" = none
  n_int : mg "int" = none
  n_len : mg "len" = none
  n_list : mg "list" = none
  n_max : mg "max" = none
  n_min : mg "min" = none
  n_range : mg "range" = none
  n_repr : mg "repr" = none
  n_set : mg "set" = none
  n_sorted : mg "sorted" = none
  n_tuple : mg "tuple" = none
  c_LETTERS : ∃ t, mg "LETTERS" = some (.str "abcdefghijklmnopqrstuvwxyz" t)
  f_ini : Fun K "__init__" "TalkError.__init__" s_ini (ad 38) (fd 38)
  g_TalkError : mg "TalkError" = some (.ref (ca 0))
  g_DoubleStep : mg "DoubleStep" = some (.ref (ca 3))
  er_DoubleStep : ErrC K mg (ad 38) "DoubleStep" (ca 3)
  g_InvalidName : mg "InvalidName" = some (.ref (ca 1))
  er_InvalidName : ErrC K mg (ad 38) "InvalidName" (ca 1)
  g_InvalidStep : mg "InvalidStep" = some (.ref (ca 2))
  er_InvalidStep : ErrC K mg (ad 38) "InvalidStep" (ca 2)
  g_Service : mg "Service" = some (.ref (ca 4))
  cl_Service : Cls K (ca 4)
  mk_Service : Mk K (ca 4) (ad 8)
  is_Service : IsTab K mg (ca 4) (isT "Service")
  sl_Service : PySem.W.findIn K (.ref (ca 4)) "__len__" = some (some (.ref (ad 11)))
  fl_Service : PySem.W.isFn K (.ref (ad 11)) = true
  se_Service : PySem.W.findIn K (.ref (ca 4)) "__eq__" = some (some (.ref (ad 12)))
  fe_Service : PySem.W.isFn K (.ref (ad 12)) = true
  nq_Service : PySem.W.findIn K (.ref (ca 4)) "__ne__" = some (some (.builtin "object.__ne__"))
  om_Service : PySem.W.mroIn K (ca 4) (.type "object") = some true
  sf_Service : PySem.W.selfFirst K (ca 4) = true
  si_Service : PySem.W.findIn K (.ref (ca 4)) "__invert__" = some (some (.ref (ad 15)))
  fi_Service : PySem.W.isFn K (.ref (ad 15)) = true
  sr_Service : PySem.W.findIn K (.ref (ca 4)) "__rshift__" = some (some (.ref (ad 13)))
  fr_Service : PySem.W.isFn K (.ref (ad 13)) = true
  so_Service : PySem.W.findIn K (.ref (ca 4)) "__or__" = some (some (.ref (ad 14)))
  fo_Service : PySem.W.isFn K (.ref (ad 14)) = true
  me_has : Meth K (ca 4) "has" (ad 18)
  na_Service_kept_rooms : NoAttr K (ca 4) "kept_rooms"
  f_is_name : Fun K "is_name" "is_name" s_is_name (ad 1) (fd 1)
  g_is_name : mg "is_name" = some (.ref (ad 1))
  f_check_name : Fun K "check_name" "check_name" s_check_name (ad 2) (fd 2)
  g_check_name : mg "check_name" = some (.ref (ad 2))
  f_check_rooms : Fun K "check_rooms" "check_rooms" s_check_rooms (ad 3) (fd 3)
  g_check_rooms : mg "check_rooms" = some (.ref (ad 3))
  f_room_kinds : Fun K "room_kinds" "room_kinds" s_room_kinds (ad 4) (fd 4)
  g_room_kinds : mg "room_kinds" = some (.ref (ad 4))
  f_least_rooms : Fun K "least_rooms" "least_rooms" s_least_rooms (ad 5) (fd 5)
  g_least_rooms : mg "least_rooms" = some (.ref (ad 5))
  f_Service___init : Fun K "__init__" "Service.__init__" s_Service___init (ad 8) (fd 8)
  f_next_room : Fun K "next_room" "next_room" s_next_room (ad 20) (fd 20)
  g_next_room : mg "next_room" = some (.ref (ad 20))
  f_Service_has : Fun K "has" "Service.has" s_Service_has (ad 18) (fd 18)
  f_l_mint : Fun K "_law_mint" "_law_mint" s_l_mint (ad 21) (fd 21)
  g_l_mint : mg "_law_mint" = some (.ref (ad 21))
  f_l_coin : Fun K "_law_coin" "_law_coin" s_l_coin (ad 22) (fd 22)
  g_l_coin : mg "_law_coin" = some (.ref (ad 22))
  f_l_labels : Fun K "_law_labels" "_law_labels" s_l_labels (ad 23) (fd 23)
  g_l_labels : mg "_law_labels" = some (.ref (ad 23))
  f_l_room_steps : Fun K "_law_room_steps" "_law_room_steps" s_l_room_steps (ad 24) (fd 24)
  g_l_room_steps : mg "_law_room_steps" = some (.ref (ad 24))
  f_l_plan_of : Fun K "_law_plan_of" "_law_plan_of" s_l_plan_of (ad 25) (fd 25)
  g_l_plan_of : mg "_law_plan_of" = some (.ref (ad 25))
  f_l_made_service : Fun K "_law_made_service" "_law_made_service" s_l_made_service (ad 28) (fd 28)
  g_l_made_service : mg "_law_made_service" = some (.ref (ad 28))
  f_l_goal : Fun K "_law_goal" "_law_goal" s_l_goal (ad 29) (fd 29)
  g_l_goal : mg "_law_goal" = some (.ref (ad 29))
  f_l_has_row : Fun K "_law_has_row" "_law_has_row" s_l_has_row (ad 33) (fd 33)
  g_l_has_row : mg "_law_has_row" = some (.ref (ad 33))
  f_l_walk : Fun K "_law_walk" "_law_walk" s_l_walk (ad 34) (fd 34)
  g_l_walk : mg "_law_walk" = some (.ref (ad 34))
  f_l_bent_row : Fun K "_law_bent_row" "_law_bent_row" s_l_bent_row (ad 35) (fd 35)
  g_l_bent_row : mg "_law_bent_row" = some (.ref (ad 35))
  f_l_fits : Fun K "_law_fits" "_law_fits" s_l_fits (ad 36) (fd 36)
  g_l_fits : mg "_law_fits" = some (.ref (ad 36))
  f_lawdef : Fun K "law" "law" s_lawdef (ad 37) (fd 37)
  g_lawdef : mg "law" = some (.ref (ad 37))
section
variable {K : PySem.W.Frag} {mg : Str → Option Value} {ad ca : Nat → Addr} {fd : Nat → FuncData}
theorem TX.k_is_name (T : TX K mg ad ca fd) : PySem.W.keepIn K (.ref (ad 1)) = true := T.f_is_name.kp
theorem TX.b_is_name (T : TX K mg ad ca fd) : Binds K (fd 1) ["name"] [] := T.f_is_name.binds fun _ _ _ _ _ _ us hl => match us, hl with | [_], _ => rfl
theorem TX.k_check_name (T : TX K mg ad ca fd) : PySem.W.keepIn K (.ref (ad 2)) = true := T.f_check_name.kp
theorem TX.b_check_name (T : TX K mg ad ca fd) : Binds K (fd 2) ["name"] [] := T.f_check_name.binds fun _ _ _ _ _ _ us hl => match us, hl with | [_], _ => rfl
theorem TX.k_check_rooms (T : TX K mg ad ca fd) : PySem.W.keepIn K (.ref (ad 3)) = true := T.f_check_rooms.kp
theorem TX.b_check_rooms (T : TX K mg ad ca fd) : Binds K (fd 3) ["rooms"] [] := T.f_check_rooms.binds fun _ _ _ _ _ _ us hl => match us, hl with | [_], _ => rfl
theorem TX.k_room_kinds (T : TX K mg ad ca fd) : PySem.W.keepIn K (.ref (ad 4)) = true := T.f_room_kinds.kp
theorem TX.b_room_kinds (T : TX K mg ad ca fd) : Binds K (fd 4) ["rooms"] [] := T.f_room_kinds.binds fun _ _ _ _ _ _ us hl => match us, hl with | [_], _ => rfl
theorem TX.k_least_rooms (T : TX K mg ad ca fd) : PySem.W.keepIn K (.ref (ad 5)) = true := T.f_least_rooms.kp
theorem TX.b_least_rooms (T : TX K mg ad ca fd) : Binds K (fd 5) ["rooms"] [] := T.f_least_rooms.binds fun _ _ _ _ _ _ us hl => match us, hl with | [_], _ => rfl
theorem TX.k_Service___init (T : TX K mg ad ca fd) : PySem.W.keepIn K (.ref (ad 8)) = true := T.f_Service___init.kp
theorem TX.b_Service___init (T : TX K mg ad ca fd) : Binds K (fd 8) ["self", "rooms"] [] := T.f_Service___init.binds fun _ _ _ _ _ _ us hl => match us, hl with | [_, _], _ => rfl
theorem TX.k_next_room (T : TX K mg ad ca fd) : PySem.W.keepIn K (.ref (ad 20)) = true := T.f_next_room.kp
theorem TX.b_next_room (T : TX K mg ad ca fd) : Binds K (fd 20) ["steps", "key"] [] := T.f_next_room.binds fun _ _ _ _ _ _ us hl => match us, hl with | [_, _], _ => rfl
theorem TX.k_Service_has (T : TX K mg ad ca fd) : PySem.W.keepIn K (.ref (ad 18)) = true := T.f_Service_has.kp
theorem TX.b_Service_has (T : TX K mg ad ca fd) : Binds K (fd 18) ["self", "row"] [] := T.f_Service_has.binds fun _ _ _ _ _ _ us hl => match us, hl with | [_, _], _ => rfl
theorem TX.k_l_mint (T : TX K mg ad ca fd) : PySem.W.keepIn K (.ref (ad 21)) = true := T.f_l_mint.kp
theorem TX.b_l_mint (T : TX K mg ad ca fd) : Binds K (fd 21) ["script", "place"] [] := T.f_l_mint.binds fun _ _ _ _ _ _ us hl => match us, hl with | [_, _], _ => rfl
theorem TX.k_l_coin (T : TX K mg ad ca fd) : PySem.W.keepIn K (.ref (ad 22)) = true := T.f_l_coin.kp
theorem TX.b_l_coin (T : TX K mg ad ca fd) : Binds K (fd 22) ["mint", "many"] [] := T.f_l_coin.binds fun _ _ _ _ _ _ us hl => match us, hl with | [_, _], _ => rfl
theorem TX.k_l_labels (T : TX K mg ad ca fd) : PySem.W.keepIn K (.ref (ad 23)) = true := T.f_l_labels.kp
theorem TX.b_l_labels (T : TX K mg ad ca fd) : Binds K (fd 23) ["mint", "many"] [] := T.f_l_labels.binds fun _ _ _ _ _ _ us hl => match us, hl with | [_, _], _ => rfl
theorem TX.k_l_room_steps (T : TX K mg ad ca fd) : PySem.W.keepIn K (.ref (ad 24)) = true := T.f_l_room_steps.kp
theorem TX.b_l_room_steps (T : TX K mg ad ca fd) : Binds K (fd 24) ["mint", "count", "lines_here", "words_here", "one_sign"] [] := T.f_l_room_steps.binds fun _ _ _ _ _ _ us hl => match us, hl with | [_, _, _, _, _], _ => rfl
theorem TX.k_l_plan_of (T : TX K mg ad ca fd) : PySem.W.keepIn K (.ref (ad 25)) = true := T.f_l_plan_of.kp
theorem TX.b_l_plan_of (T : TX K mg ad ca fd) : Binds K (fd 25) ["mint", "most", "lines_here", "words_here", "one_sign"] [] := T.f_l_plan_of.binds fun _ _ _ _ _ _ us hl => match us, hl with | [_, _, _, _, _], _ => rfl
theorem TX.k_l_made_service (T : TX K mg ad ca fd) : PySem.W.keepIn K (.ref (ad 28)) = true := T.f_l_made_service.kp
theorem TX.b_l_made_service (T : TX K mg ad ca fd) : Binds K (fd 28) ["plan"] [] := T.f_l_made_service.binds fun _ _ _ _ _ _ us hl => match us, hl with | [_], _ => rfl
theorem TX.k_l_goal (T : TX K mg ad ca fd) : PySem.W.keepIn K (.ref (ad 29)) = true := T.f_l_goal.kp
theorem TX.b_l_goal (T : TX K mg ad ca fd) : Binds K (fd 29) ["steps_here", "key"] [] := T.f_l_goal.binds fun _ _ _ _ _ _ us hl => match us, hl with | [_, _], _ => rfl
theorem TX.k_l_has_row (T : TX K mg ad ca fd) : PySem.W.keepIn K (.ref (ad 33)) = true := T.f_l_has_row.kp
theorem TX.b_l_has_row (T : TX K mg ad ca fd) : Binds K (fd 33) ["plan", "path"] [] := T.f_l_has_row.binds fun _ _ _ _ _ _ us hl => match us, hl with | [_, _], _ => rfl
theorem TX.k_l_walk (T : TX K mg ad ca fd) : PySem.W.keepIn K (.ref (ad 34)) = true := T.f_l_walk.kp
theorem TX.b_l_walk (T : TX K mg ad ca fd) : Binds K (fd 34) ["mint", "plan", "most"] [] := T.f_l_walk.binds fun _ _ _ _ _ _ us hl => match us, hl with | [_, _, _], _ => rfl
theorem TX.k_l_bent_row (T : TX K mg ad ca fd) : PySem.W.keepIn K (.ref (ad 35)) = true := T.f_l_bent_row.kp
theorem TX.b_l_bent_row (T : TX K mg ad ca fd) : Binds K (fd 35) ["mint", "path", "lines_here", "words_here"] [] := T.f_l_bent_row.binds fun _ _ _ _ _ _ us hl => match us, hl with | [_, _, _, _], _ => rfl
theorem TX.k_l_fits (T : TX K mg ad ca fd) : PySem.W.keepIn K (.ref (ad 36)) = true := T.f_l_fits.kp
theorem TX.b_l_fits (T : TX K mg ad ca fd) : Binds K (fd 36) ["mint"] [] := T.f_l_fits.binds fun _ _ _ _ _ _ us hl => match us, hl with | [_], _ => rfl
theorem TX.k_lawdef (T : TX K mg ad ca fd) : PySem.W.keepIn K (.ref (ad 37)) = true := T.f_lawdef.kp
theorem TX.b_lawdef (T : TX K mg ad ca fd) : Binds K (fd 37) ["script"] [] := T.f_lawdef.binds fun _ _ _ _ _ _ us hl => match us, hl with | [_], _ => rfl
theorem TX.k_ini (T : TX K mg ad ca fd) : PySem.W.keepIn K (.ref (ad 38)) = true := T.f_ini.kp
theorem TX.b_ini (T : TX K mg ad ca fd) : Binds K (fd 38) ["self", "value"] [] := T.f_ini.binds fun _ _ _ _ _ _ us hl => match us, hl with | [_, _], _ => rfl
theorem TX.m_Service_has_row (T : TX K mg ad ca fd) : BindsM K (fd 18) ["self", "row"] "row" := by
  obtain ⟨oc, od, kV, doc, pm, an, cdv, ct, osl, e, lk, hcd⟩ := T.f_Service_has.ex
  rw [e]
  exact fun s v ws _ => .of_eq rfl
end
noncomputable section
def pg_is_name : SP :=
  (sRet (xAnd (xChain leD leD (xc (.int 1)) (xB lenU (aCons (xv 0) aNil)) (xc (.int 8))) (xB allD (aCons (frz (xLc (itD (xf 0)) [1] (gN 1) bYes (x2 inU (xv 1) (xc (.str "abcdefghijklmnopqrstuvwxyz"))))) aNil))))
def F_is_name : M Val := semF 1 2 pg_is_name
theorem sc_is_name : FnScope ["name", "letter"] ["name"] (defScope s_is_name) := ⟨rfl, rfl, rfl, by decide +kernel, rfl, by decide +kernel, by decide +kernel⟩
theorem ok_is_name {P : Program} {w : World} {K : PySem.W.Frag} {mg : Str → Option Value} {base : Heap} {ad ca : Nat → Addr} {fd : Nat → FuncData} (T : TX K mg ad ca fd) :
    FnOk P w K mg base (L2.CX P w) 2 (ad 1) (fd 1) ["name"] (spF ⟨P, w, K, mg⟩ 1 F_is_name) :=
  ok_fn T.f_is_name sc_is_name fun cdv A outer s H E hr =>
    by
    have nd := sc_is_name.nd
    have hu := hr.units
    have tk : Takes (cxOf (L2.CX P w) P w K mg base ["name", "letter"] "is_name" (defScope s_is_name) (ad 1) cdv A outer s H E) (fun cls d _ H => E cls d H) := takes_of rfl rfl rfl rfl
    exact (s_one (s_ret (x_and (x_chain op_le opT_le op_le opT_le x_int (x_B (pe_callB callV_len rfl T.n_len bb_len (a_cons (x_v (pv 0)) a_nil)) callT_lenU) x_int) (x_one (x_B (pe_callB (cr_all rfl) rfl T.n_all bb_all (a_cons (x_frz (x_lc (vs := List.map Prod.snd ([("letter", 1)] : List (Str × Nat))) (pe_lc (own := [("letter", 1)]) rfl nd (i_any (x_f (pv 0))) (blkOk_by (own := [("letter", 1)]) (by kernel_rfl)) (fun _ _ _ _ _ => (g_name (i := 1) nd rfl (by first | exact Or.inl rfl | exact Or.inr rfl))) (fun _ _ _ _ _ => ts_nil) (fun _ _ _ _ _ => (x_cmp (opV_in (hu65 hr)) opT_inV (x_v (pv 1)) (x_gs rfl T.c_LETTERS) rfl))) (by decide))) a_nil)) callT_all)))))
def pg_check_name : SP :=
  (sIf (bNot (bt (frz (xdef 1 F_is_name (aCons (xf 0) aNil))))) (sRaise "InvalidName" (xf 0)) sNil)
def F_check_name : M Val := semF 1 1 pg_check_name
theorem sc_check_name : FnScope ["name"] ["name"] (defScope s_check_name) := ⟨rfl, rfl, rfl, by decide +kernel, rfl, by decide +kernel, by decide +kernel⟩
theorem ok_check_name {P : Program} {w : World} {K : PySem.W.Frag} {mg : Str → Option Value} {base : Heap} {ad ca : Nat → Addr} {fd : Nat → FuncData} (T : TX K mg ad ca fd) :
    FnOk P w K mg base (L2.CX P w) 3 (ad 2) (fd 2) ["name"] (spF ⟨P, w, K, mg⟩ 1 F_check_name) :=
  ok_fn T.f_check_name sc_check_name fun cdv A outer s H E hr =>
    by
    have nd := sc_check_name.nd
    have hu := hr.units
    have tk : Takes (cxOf (L2.CX P w) P w K mg base ["name"] "check_name" (defScope s_check_name) (ad 2) cdv A outer s H E) (fun cls d _ H => E cls d H) := takes_of rfl rfl rfl rfl
    exact (s_one (s_if (b_not (b_val (x_frz (x_call (ok_is_name T) (hr.mono (by decide)) rfl T.g_is_name T.k_is_name T.b_is_name tk (a_cons (x_f (pv 0)) a_nil))))) (s_one (s_raise (c := "InvalidName") T.er_InvalidName (ok_ini T.f_ini (by exact sc_ini) (Or.inl rfl) (Or.inl rfl) rfl) T.b_ini rfl tk hr (by decide) rfl (x_f (pv 0)))) s_nil))
def pg_check_rooms : SP :=
  (sSeq (sFor (itD (xf 0)) (gN 1)
  (sFor (itD (xf 1)) (gT 4 (gsC (gN 3) (gsC (gN 4) (gsC (gN 5) (gsC (gN 6) gsN)))))
  (sSeq (sIf (bOr (bt (x2 notInU (xv 3) (xTup (aCons (xc (.str "!")) (aCons (xc (.str "?")) aNil))))) (bNot (bt (xChain leD ltD (xc (.int 0)) (xv 6) (xB lenU (aCons (xv 0) aNil)))))) (sRaise "InvalidStep" (xTup (aCons (xf 3) (aCons (xf 4) (aCons (xf 5) (aCons (xf 6) aNil)))))) sNil)
  (sSeq (sDrop (xdef 1 F_check_name (aCons (xf 4) aNil)))
  (sDrop (xdef 1 F_check_name (aCons (xf 5) aNil)))))))
  (sFor (itR1 (aCons (xB lenU (aCons (xv 0) aNil)) aNil)) (gN 2)
  (sIf (bt (x2 ltD (xSet gLenSet (frz (xLc (itD (x2 ixU (xv 0) (xv 2))) [7] (gN 7) bYes (frz (xSl slD (xv 7) oNone (oSome (xc (.int 3)))))))) (xB lenU (aCons (x2 ixU (xv 0) (xv 2)) aNil)))) (sRaise "DoubleStep" (xf 2)) sNil)))
def F_check_rooms : M Val := semF 1 8 pg_check_rooms
theorem sc_check_rooms : FnScope ["rooms", "steps", "index", "sign", "line", "word", "room", "step"] ["rooms"] (defScope s_check_rooms) := ⟨rfl, rfl, rfl, by decide +kernel, rfl, by decide +kernel, by decide +kernel⟩
theorem ok_check_rooms {P : Program} {w : World} {K : PySem.W.Frag} {mg : Str → Option Value} {base : Heap} {ad ca : Nat → Addr} {fd : Nat → FuncData} (T : TX K mg ad ca fd) :
    FnOk P w K mg base (L2.CX P w) 4 (ad 3) (fd 3) ["rooms"] (spF ⟨P, w, K, mg⟩ 1 F_check_rooms) :=
  ok_fn T.f_check_rooms sc_check_rooms fun cdv A outer s H E hr =>
    by
    have nd := sc_check_rooms.nd
    have hu := hr.units
    have tk : Takes (cxOf (L2.CX P w) P w K mg base ["rooms", "steps", "index", "sign", "line", "word", "room", "step"] "check_rooms" (defScope s_check_rooms) (ad 3) cdv A outer s H E) (fun cls d _ H => E cls d H) := takes_of rfl rfl rfl rfl
    exact (s_cons (s_for (passes_of rfl) rfl (i_any (x_f (pv 0))) (g_name (i := 1) nd rfl (by first | exact Or.inl rfl | exact Or.inr rfl))
  (s_one (s_for (passes_of rfl) rfl (i_any (x_f (pv 1))) (g_tup rfl (gs_cons (g_name (i := 3) nd rfl (by first | exact Or.inl rfl | exact Or.inr rfl)) (gs_cons (g_name (i := 4) nd rfl (by first | exact Or.inl rfl | exact Or.inr rfl)) (gs_cons (g_name (i := 5) nd rfl (by first | exact Or.inl rfl | exact Or.inr rfl)) (gs_cons (g_name (i := 6) nd rfl (by first | exact Or.inl rfl | exact Or.inr rfl)) gs_nil)))))
  (s_cons (s_if (PW.pt (b_or (b_cmp (opV_notIn (hu65 hr)) opT_notInV (x_v (pv 3)) (x_tup (a_cons x_str (a_cons x_str a_nil))) rfl) (b_one (b_not (b_chain op_le opT_le opU_lt opT_lt x_int (x_v (pv 6)) (x_B (pe_callB callV_len rfl T.n_len bb_len (a_cons (x_v (pv 0)) a_nil)) callT_lenU))) (.inr rfl)))) (s_one (s_raise (c := "InvalidStep") T.er_InvalidStep (ok_ini T.f_ini (by exact sc_ini) (Or.inl rfl) (Or.inl rfl) rfl) T.b_ini rfl tk hr (by decide) rfl (x_tup (a_cons (x_f (pv 3)) (a_cons (x_f (pv 4)) (a_cons (x_f (pv 5)) (a_cons (x_f (pv 6)) a_nil))))))) s_nil)
  (s_cons (s_expr (x_call (ok_check_name T) (hr.mono (by decide)) rfl T.g_check_name T.k_check_name T.b_check_name tk (a_cons (x_f (pv 4)) a_nil)))
  (s_one (s_expr (x_call (ok_check_name T) (hr.mono (by decide)) rfl T.g_check_name T.k_check_name T.b_check_name tk (a_cons (x_f (pv 5)) a_nil)))))))))
  (s_one (s_for (passes_of rfl) rfl (i_range1 rfl T.n_range (a_cons (x_B (pe_callB callV_len rfl T.n_len bb_len (a_cons (x_v (pv 0)) a_nil)) callT_lenU) a_nil)) (g_name (i := 2) nd rfl (by first | exact Or.inl rfl | exact Or.inr rfl))
  (s_one (s_if (b_cmp opU_lt opT_lt (x_lenSet rfl hu rfl T.n_len rfl T.n_set (x_frz (x_lc (vs := List.map Prod.snd ([("step", 7)] : List (Str × Nat))) (pe_lc (own := [("step", 7)]) rfl nd (i_any (x_ix (ix_all (hu65 hr)) opT_ixU (x_v (pv 0)) (x_v (pv 2)) (fun _ _ => rfl))) (blkOk_by (own := [("step", 7)]) (by kernel_rfl)) (fun _ _ _ _ _ => (g_name (i := 7) nd rfl (by first | exact Or.inl rfl | exact Or.inr rfl))) (fun _ _ _ _ _ => ts_nil) (fun _ _ _ _ _ => (x_frz (x_slice slU slT_any (x_v (pv 7)) o_none (o_some x_int))))) (by decide)))) (x_B (pe_callB callV_len rfl T.n_len bb_len (a_cons (x_ix (ix_all (hu65 hr)) opT_ixU (x_v (pv 0)) (x_v (pv 2)) (fun _ _ => rfl)) a_nil)) callT_lenU) (nomark _)) (s_one (s_raise (c := "DoubleStep") T.er_DoubleStep (ok_ini T.f_ini (by exact sc_ini) (Or.inl rfl) (Or.inl rfl) rfl) T.b_ini rfl tk hr (by decide) rfl (x_f (pv 2)))) s_nil)))))
def pg_room_kinds : SP :=
  (sSeq (sSet 1 (xLc (itD (xf 0)) [7] (gN 7) bYes (xc (.int 0))))
  (sSeq (sSet 2 (xc (.int 0)))
  (sSeq (sSet 3 (xc (.int 1)))
  (sSeq (sWhile 64 (bt (x2 neD (xv 2) (xv 3)))
  (sSeq (sSet 4 (xDn 2))
  (sSeq (sSet 5 (xLst aNil))
  (sSeq (sFor (itR1 (aCons (xB lenU (aCons (xv 0) aNil)) aNil)) (gN 6)
  (sSeq (sSet 8 (xLc (itD (x2 ixU (xv 0) (xv 6))) [7, 10, 11, 12] (gT 4 (gsC (gN 10) (gsC (gN 11) (gsC (gN 12) (gsC (gN 7) gsN))))) bYes (xTup (aCons (xf 10) (aCons (xf 11) (aCons (xf 12) (aCons (x2 ixU (xv 1) (xv 7)) aNil)))))))
  (sSeq (sSet 9 (xTup (aCons (x2 ixU (xv 1) (xv 6)) (aCons (frz (xB tupleD (aCons (frz (xB sortedD (aCons (xv 8) aNil))) aNil))) aNil))))
  (sSeq (sIf (bt (x2 notInU (xv 9) (xv 4))) (sStU 4 (xB lenU (aCons (xv 4) aNil)) (xv 9)) sNil)
  (sDrop (xMut 5 gApp (aCons (x2 ixU (xv 4) (xv 9)) aNil)))))))
  (sSeq (sSet 2 (xf 3))
  (sSeq (sSet 3 (xB lenU (aCons (xv 4) aNil)))
  (sSet 1 (xf 5))))))))
  (sRet (xm 1))))))
def F_room_kinds : M Val := semF 1 13 pg_room_kinds
theorem sc_room_kinds : FnScope ["rooms", "kinds", "many", "found", "places", "later", "at", "room", "told", "key", "sign", "line", "word"] ["rooms"] (defScope s_room_kinds) := ⟨rfl, rfl, rfl, by decide +kernel, rfl, by decide +kernel, by decide +kernel⟩
theorem ok_room_kinds {P : Program} {w : World} {K : PySem.W.Frag} {mg : Str → Option Value} {base : Heap} {ad ca : Nat → Addr} {fd : Nat → FuncData} (T : TX K mg ad ca fd) :
    FnOk P w K mg base (L2.CX P w) 2 (ad 4) (fd 4) ["rooms"] (spF ⟨P, w, K, mg⟩ 1 F_room_kinds) :=
  ok_fn T.f_room_kinds sc_room_kinds fun cdv A outer s H E hr =>
    by
    have nd := sc_room_kinds.nd
    have hu := hr.units
    have tk : Takes (cxOf (L2.CX P w) P w K mg base ["rooms", "kinds", "many", "found", "places", "later", "at", "room", "told", "key", "sign", "line", "word"] "room_kinds" (defScope s_room_kinds) (ad 4) cdv A outer s H E) (fun cls d _ H => E cls d H) := takes_of rfl rfl rfl rfl
    exact (s_cons (s_set (i := 1) nd rfl (by first | exact Or.inl rfl | exact Or.inr rfl) (x_lc (vs := List.map Prod.snd ([("room", 7)] : List (Str × Nat))) (pe_lc (own := [("room", 7)]) rfl nd (i_any (x_f (pv 0))) (blkOk_by (own := [("room", 7)]) (by kernel_rfl)) (fun _ _ _ _ _ => (g_name (i := 7) nd rfl (by first | exact Or.inl rfl | exact Or.inr rfl))) (fun _ _ _ _ _ => ts_nil) (fun _ _ _ _ _ => x_int)) (by decide)))
  (s_cons (s_set (i := 2) nd rfl (by first | exact Or.inl rfl | exact Or.inr rfl) x_int)
  (s_cons (s_set (i := 3) nd rfl (by first | exact Or.inl rfl | exact Or.inr rfl) x_int)
  (s_cons (s_while (n := 64) (passes_of rfl) (b_cmp (op_neU hu) opT_ne (x_v (pv 2)) (x_v (pv 3)) (nomark _))
  (s_cons (s_set (i := 4) nd rfl (by first | exact Or.inl rfl | exact Or.inr rfl) x_dn2)
  (s_cons (s_set (i := 5) nd rfl (by first | exact Or.inl rfl | exact Or.inr rfl) (x_lst a_nil))
  (s_cons (s_for (passes_of rfl) rfl (i_range1 rfl T.n_range (a_cons (x_B (pe_callB callV_len rfl T.n_len bb_len (a_cons (x_v (pv 0)) a_nil)) callT_lenU) a_nil)) (g_name (i := 6) nd rfl (by first | exact Or.inl rfl | exact Or.inr rfl))
  (s_cons (s_setLc (vs := List.map Prod.snd ([("room", 7), ("sign", 10), ("line", 11), ("word", 12)] : List (Str × Nat))) (ps_setLc (i := 8) (own := [("room", 7), ("sign", 10), ("line", 11), ("word", 12)]) rfl nd rfl rfl (sw_true rfl rfl rfl (by decide +kernel)) (i_any (x_ix (ix_all (hu65 hr)) opT_ixU (x_v (pv 0)) (x_v (pv 6)) (fun _ _ => rfl))) (blkOk_by (own := [("room", 7), ("sign", 10), ("line", 11), ("word", 12)]) (by kernel_rfl)) (fun _ _ _ _ _ => (g_tup rfl (gs_cons (g_name (i := 10) nd rfl (by first | exact Or.inl rfl | exact Or.inr rfl)) (gs_cons (g_name (i := 11) nd rfl (by first | exact Or.inl rfl | exact Or.inr rfl)) (gs_cons (g_name (i := 12) nd rfl (by first | exact Or.inl rfl | exact Or.inr rfl)) (gs_cons (g_name (i := 7) nd rfl (by first | exact Or.inl rfl | exact Or.inr rfl)) gs_nil)))))) (fun _ _ _ _ _ => ts_nil) (fun _ _ _ _ _ => (x_tup (a_cons (x_f (pv 10)) (a_cons (x_f (pv 11)) (a_cons (x_f (pv 12)) (a_cons (x_ix (ix_all (hu65 hr)) opT_ixU (x_v (pv 1)) (x_v (pv 7)) (fun _ _ => rfl)) a_nil))))))) (by decide))
  (s_cons (s_set (i := 9) nd rfl (by first | exact Or.inl rfl | exact Or.inr rfl) (x_tup (a_cons (x_ix (ix_all (hu65 hr)) opT_ixU (x_v (pv 1)) (x_v (pv 6)) (fun _ _ => rfl)) (a_cons (x_frz (x_B (pe_callTy call_tuple_of rfl T.n_tuple bb_tuple (a_cons (x_frz (x_B (pe_callB (callU_sorted hu) rfl T.n_sorted bb_sorted (a_cons (x_v (pv 8)) a_nil)) callT_sorted)) a_nil)) callT_tuple)) a_nil))))
  (s_cons (s_if (b_cmp (opV_notIn (hu65 hr)) opT_notInV (x_v (pv 9)) (x_v (pv 4)) rfl) (s_one (s_stU (ps_asg (x_B (pe_callB callV_len rfl T.n_len bb_len (a_cons (x_v (pv 4)) a_nil)) callT_lenU) (pg_sub (pv 4) (x_v (pv 9)) (set_any (hu65 hr)))))) s_nil)
  (s_one (s_expr (x_mut (pe_bm PySem.F.plainAttrs_list PySem.F.slot_list_append PySem.F.type_list_append mt_append (pv 5) (a_cons (x_ix (ix_all (hu65 hr)) opT_ixU (x_v (pv 4)) (x_v (pv 9)) (fun _ _ => rfl)) a_nil)) mutT_app)))))))
  (s_cons (s_set (i := 2) nd rfl (by first | exact Or.inl rfl | exact Or.inr rfl) (x_f (pv 3)))
  (s_cons (s_set (i := 3) nd rfl (by first | exact Or.inl rfl | exact Or.inr rfl) (x_B (pe_callB callV_len rfl T.n_len bb_len (a_cons (x_v (pv 4)) a_nil)) callT_lenU))
  (s_one (s_set (i := 1) nd rfl (by first | exact Or.inl rfl | exact Or.inr rfl) (x_f (pv 5))))))))))
  (s_one (s_ret (x_m (pv 1))))))))
def pg_least_rooms : SP :=
  (sSeq (sSet 1 (xdef 1 F_room_kinds (aCons (xf 0) aNil)))
  (sSeq (sSet 2 (xDisp1 (x2 ixU (xv 1) (xc (.int 0))) (xc (.int 0))))
  (sSeq (sSet 3 (xLst (aCons (xc (.int 0)) aNil)))
  (sSeq (sSet 4 (xLst aNil))
  (sSeq (sWhile 64 (bt (x2 ltD (xB lenU (aCons (xv 4) aNil)) (xB lenU (aCons (xv 3) aNil))))
  (sSeq (sSet 5 (xLst aNil))
  (sSeq (sFor (itD (frz (xB sortedD (aCons (x2 ixU (xv 0) (x2 ixU (xv 3) (xB lenU (aCons (xv 4) aNil)))) aNil)))) (gT 4 (gsC (gN 6) (gsC (gN 7) (gsC (gN 8) (gsC (gN 9) gsN)))))
  (sSeq (sIf (bt (x2 notInU (x2 ixU (xv 1) (xv 9)) (xv 2))) (sSeq (sStU 2 (xB lenU (aCons (xv 3) aNil)) (x2 ixU (xv 1) (xv 9)))
  (sDrop (xMut 3 gApp (aCons (xf 9) aNil)))) sNil)
  (sDrop (xMut 5 gApp (aCons (xTup (aCons (xf 6) (aCons (xf 7) (aCons (xf 8) (aCons (x2 ixU (xv 2) (x2 ixU (xv 1) (xv 9))) aNil))))) aNil)))))
  (sDrop (xMut 4 gApp (aCons (frz (xB tupleD (aCons (xv 5) aNil))) aNil))))))
  (sRet (xB tupleD (aCons (xv 4) aNil))))))))
def F_least_rooms : M Val := semF 1 10 pg_least_rooms
theorem sc_least_rooms : FnScope ["rooms", "kinds", "places", "order", "found", "steps", "sign", "line", "word", "room"] ["rooms"] (defScope s_least_rooms) := ⟨rfl, rfl, rfl, by decide +kernel, rfl, by decide +kernel, by decide +kernel⟩
theorem ok_least_rooms {P : Program} {w : World} {K : PySem.W.Frag} {mg : Str → Option Value} {base : Heap} {ad ca : Nat → Addr} {fd : Nat → FuncData} (T : TX K mg ad ca fd) :
    FnOk P w K mg base (L2.CX P w) 3 (ad 5) (fd 5) ["rooms"] (spF ⟨P, w, K, mg⟩ 1 F_least_rooms) :=
  ok_fn T.f_least_rooms sc_least_rooms fun cdv A outer s H E hr =>
    by
    have nd := sc_least_rooms.nd
    have hu := hr.units
    have tk : Takes (cxOf (L2.CX P w) P w K mg base ["rooms", "kinds", "places", "order", "found", "steps", "sign", "line", "word", "room"] "least_rooms" (defScope s_least_rooms) (ad 5) cdv A outer s H E) (fun cls d _ H => E cls d H) := takes_of rfl rfl rfl rfl
    exact (s_cons (s_set (i := 1) nd rfl (by first | exact Or.inl rfl | exact Or.inr rfl) (x_call (ok_room_kinds T) (hr.mono (by decide)) rfl T.g_room_kinds T.k_room_kinds T.b_room_kinds tk (a_cons (x_f (pv 0)) a_nil)))
  (s_cons (s_set (i := 2) nd rfl (by first | exact Or.inl rfl | exact Or.inr rfl) (x_disp1 (x_ix (ix_all (hu65 hr)) opT_ixU (x_v (pv 1)) x_int (fun _ _ => rfl)) x_int))
  (s_cons (s_set (i := 3) nd rfl (by first | exact Or.inl rfl | exact Or.inr rfl) (x_lst (a_cons x_int a_nil)))
  (s_cons (s_set (i := 4) nd rfl (by first | exact Or.inl rfl | exact Or.inr rfl) (x_lst a_nil))
  (s_cons (s_while (n := 64) (passes_of rfl) (b_cmp opU_lt opT_lt (x_B (pe_callB callV_len rfl T.n_len bb_len (a_cons (x_v (pv 4)) a_nil)) callT_lenU) (x_B (pe_callB callV_len rfl T.n_len bb_len (a_cons (x_v (pv 3)) a_nil)) callT_lenU) (nomark _))
  (s_cons (s_set (i := 5) nd rfl (by first | exact Or.inl rfl | exact Or.inr rfl) (x_lst a_nil))
  (s_cons (s_for (passes_of rfl) rfl (i_any (x_frz (x_B (pe_callB (callU_sorted hu) rfl T.n_sorted bb_sorted (a_cons (x_ix (ix_all (hu65 hr)) opT_ixU (x_v (pv 0)) (x_ix (ix_all (hu65 hr)) opT_ixU (x_v (pv 3)) (x_B (pe_callB callV_len rfl T.n_len bb_len (a_cons (x_v (pv 4)) a_nil)) callT_lenU) (fun _ _ => rfl)) (fun _ _ => rfl)) a_nil)) callT_sorted))) (g_tup rfl (gs_cons (g_name (i := 6) nd rfl (by first | exact Or.inl rfl | exact Or.inr rfl)) (gs_cons (g_name (i := 7) nd rfl (by first | exact Or.inl rfl | exact Or.inr rfl)) (gs_cons (g_name (i := 8) nd rfl (by first | exact Or.inl rfl | exact Or.inr rfl)) (gs_cons (g_name (i := 9) nd rfl (by first | exact Or.inl rfl | exact Or.inr rfl)) gs_nil)))))
  (s_cons (s_if (b_cmp (opV_notIn (hu65 hr)) opT_notInV (x_ix (ix_all (hu65 hr)) opT_ixU (x_v (pv 1)) (x_v (pv 9)) (fun _ _ => rfl)) (x_v (pv 2)) rfl) (s_cons (s_stU (ps_asg (x_B (pe_callB callV_len rfl T.n_len bb_len (a_cons (x_v (pv 3)) a_nil)) callT_lenU) (pg_sub (pv 2) (x_ix (ix_all (hu65 hr)) opT_ixU (x_v (pv 1)) (x_v (pv 9)) (fun _ _ => rfl)) (set_any (hu65 hr)))))
  (s_one (s_expr (x_mut (pe_bm PySem.F.plainAttrs_list PySem.F.slot_list_append PySem.F.type_list_append mt_append (pv 3) (a_cons (x_f (pv 9)) a_nil)) mutT_app)))) s_nil)
  (s_one (s_expr (x_mut (pe_bm PySem.F.plainAttrs_list PySem.F.slot_list_append PySem.F.type_list_append mt_append (pv 5) (a_cons (x_tup (a_cons (x_f (pv 6)) (a_cons (x_f (pv 7)) (a_cons (x_f (pv 8)) (a_cons (x_ix (ix_all (hu65 hr)) opT_ixU (x_v (pv 2)) (x_ix (ix_all (hu65 hr)) opT_ixU (x_v (pv 1)) (x_v (pv 9)) (fun _ _ => rfl)) (fun _ _ => rfl)) a_nil))))) a_nil)) mutT_app)))))
  (s_one (s_expr (x_mut (pe_bm PySem.F.plainAttrs_list PySem.F.slot_list_append PySem.F.type_list_append mt_append (pv 4) (a_cons (x_frz (x_B (pe_callTy call_tuple_of rfl T.n_tuple bb_tuple (a_cons (x_v (pv 5)) a_nil)) callT_tuple)) a_nil)) mutT_app))))))
  (s_one (s_ret (x_B (pe_callTy call_tuple_of rfl T.n_tuple bb_tuple (a_cons (x_v (pv 4)) a_nil)) callT_tuple))))))))
def pg_Service___init : SP :=
  (sSeq (sDrop (xdef 1 F_check_rooms (aCons (xf 1) aNil)))
  (sFldE 0 "Service" "kept_rooms" (frz (xdef 1 F_least_rooms (aCons (xf 1) aNil)))))
def F_Service___init : M Val := semF 2 2 pg_Service___init
theorem sc_Service___init : FnScope ["self", "rooms"] ["self", "rooms"] (defScope s_Service___init) := ⟨rfl, rfl, rfl, by decide +kernel, rfl, by decide +kernel, by decide +kernel⟩
theorem ok_Service___init {P : Program} {w : World} {K : PySem.W.Frag} {mg : Str → Option Value} {base : Heap} {ad ca : Nat → Addr} {fd : Nat → FuncData} (T : TX K mg ad ca fd) :
    FnOk P w K mg base (L2.CX P w) 5 (ad 8) (fd 8) ["self", "rooms"] (spF ⟨P, w, K, mg⟩ 2 F_Service___init) :=
  ok_fn T.f_Service___init sc_Service___init fun cdv A outer s H E hr =>
    by
    have nd := sc_Service___init.nd
    have hu := hr.units
    have tk : Takes (cxOf (L2.CX P w) P w K mg base ["self", "rooms"] "Service.__init__" (defScope s_Service___init) (ad 8) cdv A outer s H E) (fun cls d _ H => E cls d H) := takes_of rfl rfl rfl rfl
    exact (s_cons (s_expr (x_call (ok_check_rooms T) (hr.mono (by decide)) rfl T.g_check_rooms T.k_check_rooms T.b_check_rooms tk (a_cons (x_f (pv 1)) a_nil)))
  (s_one (s_fld (i := 0) (c := "Service") T.g_Service T.cl_Service T.na_Service_kept_rooms (pv 0) (x_frz (x_call (ok_least_rooms T) (hr.mono (by decide)) rfl T.g_least_rooms T.k_least_rooms T.b_least_rooms tk (a_cons (x_f (pv 1)) a_nil))))))
def pg_next_room : SP :=
  (sSeq (sFor (itD (xf 0)) (gT 4 (gsC (gN 2) (gsC (gN 3) (gsC (gN 4) (gsC (gN 5) gsN)))))
  (sIf (bt (x2 eqD (xTup (aCons (xf 2) (aCons (xf 3) (aCons (xf 4) aNil)))) (xv 1))) (sRet (xm 5)) sNil))
  (sRet (xc .non)))
def F_next_room : M Val := semF 2 6 pg_next_room
theorem sc_next_room : FnScope ["steps", "key", "sign", "line", "word", "room"] ["steps", "key"] (defScope s_next_room) := ⟨rfl, rfl, rfl, by decide +kernel, rfl, by decide +kernel, by decide +kernel⟩
theorem ok_next_room {P : Program} {w : World} {K : PySem.W.Frag} {mg : Str → Option Value} {base : Heap} {ad ca : Nat → Addr} {fd : Nat → FuncData} (T : TX K mg ad ca fd) :
    FnOk P w K mg base (L2.CX P w) 2 (ad 20) (fd 20) ["steps", "key"] (spF ⟨P, w, K, mg⟩ 2 F_next_room) :=
  ok_fn T.f_next_room sc_next_room fun cdv A outer s H E hr =>
    by
    have nd := sc_next_room.nd
    have hu := hr.units
    have tk : Takes (cxOf (L2.CX P w) P w K mg base ["steps", "key", "sign", "line", "word", "room"] "next_room" (defScope s_next_room) (ad 20) cdv A outer s H E) (fun cls d _ H => E cls d H) := takes_of rfl rfl rfl rfl
    exact (s_cons (s_for (passes_of rfl) rfl (i_any (x_f (pv 0))) (g_tup rfl (gs_cons (g_name (i := 2) nd rfl (by first | exact Or.inl rfl | exact Or.inr rfl)) (gs_cons (g_name (i := 3) nd rfl (by first | exact Or.inl rfl | exact Or.inr rfl)) (gs_cons (g_name (i := 4) nd rfl (by first | exact Or.inl rfl | exact Or.inr rfl)) (gs_cons (g_name (i := 5) nd rfl (by first | exact Or.inl rfl | exact Or.inr rfl)) gs_nil)))))
  (s_one (s_if (b_cmp (op_eqU hu) opT_eq (x_tup (a_cons (x_f (pv 2)) (a_cons (x_f (pv 3)) (a_cons (x_f (pv 4)) a_nil)))) (x_v (pv 1)) (nomark _)) (s_one (s_ret (x_m (pv 5)))) s_nil)))
  (s_one (s_ret x_non)))
def pg_Service_has : SP :=
  (sSeq (sSet 2 (xc (.int 0)))
  (sSeq (sForB 1 (gT 3 (gsC (gN 3) (gsC (gN 4) (gsC (gN 5) gsN))))
  (sSeq (sSet 2 (xdef 2 F_next_room (aCons (x2 ixU (xFld "Service" "kept_rooms" (xv 0)) (xv 2)) (aCons (xTup (aCons (xf 3) (aCons (xf 4) (aCons (xf 5) aNil)))) aNil))))
  (sIf (bt (x2 isD (xv 2) (xc .non))) (sRet (xc (.bl false))) sNil)))
  (sRet (xc (.bl true)))))
def F_Service_has : M Val := semF 2 6 pg_Service_has
theorem sc_Service_has : FnScope ["self", "row", "at", "sign", "line", "word"] ["self", "row"] (defScope s_Service_has) := ⟨rfl, rfl, rfl, by decide +kernel, rfl, by decide +kernel, by decide +kernel⟩
theorem ok_Service_has {P : Program} {w : World} {K : PySem.W.Frag} {mg : Str → Option Value} {base : Heap} {ad ca : Nat → Addr} {fd : Nat → FuncData} (T : TX K mg ad ca fd) :
    FnOk P w K mg base (L2.CX P w) 3 (ad 18) (fd 18) ["self", "row"] (spF ⟨P, w, K, mg⟩ 2 F_Service_has) :=
  ok_fn T.f_Service_has sc_Service_has fun cdv A outer s H E hr =>
    by
    have nd := sc_Service_has.nd
    have hu := hr.units
    have tk : Takes (cxOf (L2.CX P w) P w K mg base ["self", "row", "at", "sign", "line", "word"] "Service.has" (defScope s_Service_has) (ad 18) cdv A outer s H E) (fun cls d _ H => E cls d H) := takes_of rfl rfl rfl rfl
    exact (s_cons (s_set (i := 2) nd rfl (by first | exact Or.inl rfl | exact Or.inr rfl) x_int)
  (s_cons (s_forB (i := 1) (passes_of rfl) rfl (i_any (x_f (pv 1))) (i_own (pv 1)) (g_tup rfl (gs_cons (g_name (i := 3) nd rfl (by first | exact Or.inl rfl | exact Or.inr rfl)) (gs_cons (g_name (i := 4) nd rfl (by first | exact Or.inl rfl | exact Or.inr rfl)) (gs_cons (g_name (i := 5) nd rfl (by first | exact Or.inl rfl | exact Or.inr rfl)) gs_nil))))
  (s_cons (s_set (i := 2) nd rfl (by first | exact Or.inl rfl | exact Or.inr rfl) (x_call (ok_next_room T) (hr.mono (by decide)) rfl T.g_next_room T.k_next_room T.b_next_room tk (a_cons (x_ix (ix_all (hu65 hr)) opT_ixU (x_fld (c := "Service") T.g_Service T.cl_Service T.na_Service_kept_rooms (x_v (pv 0))) (x_v (pv 2)) (fun _ _ => rfl)) (a_cons (x_tup (a_cons (x_f (pv 3)) (a_cons (x_f (pv 4)) (a_cons (x_f (pv 5)) a_nil)))) a_nil))))
  (s_one (s_if (b_cmp op_isN1 opT_is (x_v (pv 2)) x_non (nomark _)) (s_one (s_ret x_bl)) s_nil))))
  (s_one (s_ret x_bl))))
def pg_l_mint : SP :=
  (sSeq (sSet 2 (xc (.int 0)))
  (sSeq (sIf (bt (x2 ltD (xv 1) (xB lenU (aCons (xv 0) aNil)))) (sSet 2 (x2 ixU (xv 0) (xv 1))) sNil)
  (sSeq (sSet 3 (x2 modD (xB intD (aCons (frz (x2 addD (frz (x2 mulU (xB absD (aCons (xv 2) aNil)) (xc (.int 2)))) (xB intD (aCons (x2 ltD (xv 2) (xc (.int 0))) aNil)))) aNil)) (xc (.int 2305843009213693951))))
  (sRet (xLst (aCons (frz (x2 mulU (xv 2) (xB intD (aCons (x2 geD (xv 2) (x2 powD (xc (.int 10)) (xc (.int 18)))) aNil)))) (aCons (frz (x2 addD (xv 3) (frz (x2 mulU (xc (.int 1000003)) (xv 1))))) (aCons (xc (.int 0)) aNil))))))))
def F_l_mint : M Val := semF 2 4 pg_l_mint
theorem sc_l_mint : FnScope ["script", "place", "figure", "start"] ["script", "place"] (defScope s_l_mint) := ⟨rfl, rfl, rfl, by decide +kernel, rfl, by decide +kernel, by decide +kernel⟩
theorem ok_l_mint {P : Program} {w : World} {K : PySem.W.Frag} {mg : Str → Option Value} {base : Heap} {ad ca : Nat → Addr} {fd : Nat → FuncData} (T : TX K mg ad ca fd) :
    FnOk P w K mg base (L2.CX P w) 2 (ad 21) (fd 21) ["script", "place"] (spF ⟨P, w, K, mg⟩ 2 F_l_mint) :=
  ok_fn T.f_l_mint sc_l_mint fun cdv A outer s H E hr =>
    by
    have nd := sc_l_mint.nd
    have hu := hr.units
    have tk : Takes (cxOf (L2.CX P w) P w K mg base ["script", "place", "figure", "start"] "_law_mint" (defScope s_l_mint) (ad 21) cdv A outer s H E) (fun cls d _ H => E cls d H) := takes_of rfl rfl rfl rfl
    exact (s_cons (s_set (i := 2) nd rfl (by first | exact Or.inl rfl | exact Or.inr rfl) x_int)
  (s_cons (s_if (b_cmp opU_lt opT_lt (x_v (pv 1)) (x_B (pe_callB callV_len rfl T.n_len bb_len (a_cons (x_v (pv 0)) a_nil)) callT_lenU) (nomark _)) (s_one (s_set (i := 2) nd rfl (by first | exact Or.inl rfl | exact Or.inr rfl) (x_ix (ix_all (hu65 hr)) opT_ixU (x_v (pv 0)) (x_v (pv 1)) (fun _ _ => rfl)))) s_nil)
  (s_cons (s_set (i := 3) nd rfl (by first | exact Or.inl rfl | exact Or.inr rfl) (x_op op_mod opT_mod (x_B (pe_callTy call_int1 rfl T.n_int bb_int (a_cons (x_frz (x_op opU_add opT_add (x_frz (x_op opU_mul opT_mulU (x_B (pe_callB call_abs rfl T.n_abs bb_abs (a_cons (x_v (pv 2)) a_nil)) callT_abs) x_int)) (x_B (pe_callTy call_int1 rfl T.n_int bb_int (a_cons (x_cmp opU_lt opT_lt (x_v (pv 2)) x_int (nomark _)) a_nil)) callT_int))) a_nil)) callT_int) x_int))
  (s_one (s_ret (x_lst (a_cons (x_frz (x_op opU_mul opT_mulU (x_v (pv 2)) (x_B (pe_callTy call_int1 rfl T.n_int bb_int (a_cons (x_cmp op_ge opT_ge (x_v (pv 2)) (x_op op_pow opT_pow x_int x_int) (nomark _)) a_nil)) callT_int))) (a_cons (x_frz (x_op opU_add opT_add (x_v (pv 3)) (x_frz (x_op opU_mul opT_mulU x_int (x_v (pv 1)))))) (a_cons x_int a_nil)))))))))
def pg_l_coin : SP :=
  (sSeq (sIf (bt (x2 gtD (x2 ixU (xv 0) (xc (.int 0))) (xc (.int 0)))) (sSeq (sSet 3 (x2 modD (xB intD (aCons (x2 ixU (xv 0) (xc (.int 0))) aNil)) (xv 1)))
  (sSeq (sStU 0 (x2 divD (x2 ixU (xv 0) (xc (.int 0))) (xv 1)) (xc (.int 0)))
  (sRet (xm 3)))) sNil)
  (sSeq (sStU 0 (frz (x2 addD (x2 ixU (xv 0) (xc (.int 2))) (xc (.int 1)))) (xc (.int 2)))
  (sSeq (sSet 2 (x2 addD (x2 powD (frz (x2 addD (x2 ixU (xv 0) (xc (.int 1))) (frz (x2 mulU (xc (.int 6700417)) (x2 ixU (xv 0) (xc (.int 2))))))) (xc (.int 3))) (frz (x2 mulU (xc (.int 97)) (x2 ixU (xv 0) (xc (.int 2)))))))
  (sSeq (sSet 2 (x2 addD (x2 modD (xB intD (aCons (xv 2) aNil)) (xc (.int 2305843009213693951))) (frz (x2 mulU (xc (.int 2971215073)) (x2 ixU (xv 0) (xc (.int 2)))))))
  (sSeq (sSet 2 (x2 modD (xB intD (aCons (x2 powD (xv 2) (xc (.int 3))) aNil)) (xc (.int 618970019642690137449562111))))
  (sRet (x2 modD (xB intD (aCons (x2 divD (xv 2) (xc (.int 131072))) aNil)) (xv 1))))))))
def F_l_coin : M Val := semF 2 4 pg_l_coin
theorem sc_l_coin : FnScope ["mint", "many", "mixed", "taken"] ["mint", "many"] (defScope s_l_coin) := ⟨rfl, rfl, rfl, by decide +kernel, rfl, by decide +kernel, by decide +kernel⟩
theorem ok_l_coin {P : Program} {w : World} {K : PySem.W.Frag} {mg : Str → Option Value} {base : Heap} {ad ca : Nat → Addr} {fd : Nat → FuncData} (T : TX K mg ad ca fd) :
    FnOk P w K mg base (L2.CX P w) 2 (ad 22) (fd 22) ["mint", "many"] (spF ⟨P, w, K, mg⟩ 2 F_l_coin) :=
  ok_fn T.f_l_coin sc_l_coin fun cdv A outer s H E hr =>
    by
    have nd := sc_l_coin.nd
    have hu := hr.units
    have tk : Takes (cxOf (L2.CX P w) P w K mg base ["mint", "many", "mixed", "taken"] "_law_coin" (defScope s_l_coin) (ad 22) cdv A outer s H E) (fun cls d _ H => E cls d H) := takes_of rfl rfl rfl rfl
    exact (s_cons (s_if (b_cmp opU_gt opT_gt (x_ix (ix_all (hu65 hr)) opT_ixU (x_v (pv 0)) x_int (fun _ _ => rfl)) x_int (nomark _)) (s_cons (s_set (i := 3) nd rfl (by first | exact Or.inl rfl | exact Or.inr rfl) (x_op op_mod opT_mod (x_B (pe_callTy call_int1 rfl T.n_int bb_int (a_cons (x_ix (ix_all (hu65 hr)) opT_ixU (x_v (pv 0)) x_int (fun _ _ => rfl)) a_nil)) callT_int) (x_v (pv 1))))
  (s_cons (s_stU (ps_asg (x_op op_fdivW opT_div (x_ix (ix_all (hu65 hr)) opT_ixU (x_v (pv 0)) x_int (fun _ _ => rfl)) (x_v (pv 1))) (pg_sub (pv 0) x_int (set_any (hu65 hr)))))
  (s_one (s_ret (x_m (pv 3)))))) s_nil)
  (s_cons (s_stU (ps_asg (x_frz (x_op opU_add opT_add (x_ix (ix_all (hu65 hr)) opT_ixU (x_v (pv 0)) x_int (fun _ _ => rfl)) x_int)) (pg_sub (pv 0) x_int (set_any (hu65 hr)))))
  (s_cons (s_set (i := 2) nd rfl (by first | exact Or.inl rfl | exact Or.inr rfl) (x_op opU_add opT_add (x_op op_pow opT_pow (x_frz (x_op opU_add opT_add (x_ix (ix_all (hu65 hr)) opT_ixU (x_v (pv 0)) x_int (fun _ _ => rfl)) (x_frz (x_op opU_mul opT_mulU x_int (x_ix (ix_all (hu65 hr)) opT_ixU (x_v (pv 0)) x_int (fun _ _ => rfl)))))) x_int) (x_frz (x_op opU_mul opT_mulU x_int (x_ix (ix_all (hu65 hr)) opT_ixU (x_v (pv 0)) x_int (fun _ _ => rfl))))))
  (s_cons (s_set (i := 2) nd rfl (by first | exact Or.inl rfl | exact Or.inr rfl) (x_op opU_add opT_add (x_op op_mod opT_mod (x_B (pe_callTy call_int1 rfl T.n_int bb_int (a_cons (x_v (pv 2)) a_nil)) callT_int) x_int) (x_frz (x_op opU_mul opT_mulU x_int (x_ix (ix_all (hu65 hr)) opT_ixU (x_v (pv 0)) x_int (fun _ _ => rfl))))))
  (s_cons (s_set (i := 2) nd rfl (by first | exact Or.inl rfl | exact Or.inr rfl) (x_op op_mod opT_mod (x_B (pe_callTy call_int1 rfl T.n_int bb_int (a_cons (x_op op_pow opT_pow (x_v (pv 2)) x_int) a_nil)) callT_int) x_int))
  (s_one (s_ret (x_op op_mod opT_mod (x_B (pe_callTy call_int1 rfl T.n_int bb_int (a_cons (x_op op_fdivW opT_div (x_v (pv 2)) x_int) a_nil)) callT_int) (x_v (pv 1))))))))))
def pg_l_labels : SP :=
  (sSeq (sAsg (xTup (aCons (xc (.str "abcdefghijklmnopqrstuvwxyz")) (aCons (frz (xdef 2 F_l_coin (aCons (xv 0) (aCons (xc (.int 4)) aNil)))) (aCons (frz (xdef 2 F_l_coin (aCons (xv 0) (aCons (xc (.int 26)) aNil)))) aNil)))) (gT 3 (gsC (gN 3) (gsC (gN 4) (gsC (gN 5) gsN)))))
  (sSeq (sIf (bAnd (bt (x2 eqD (xv 4) (xc (.int 0)))) (bt (x2 ltD (xv 1) (xc (.int 9))))) (sRet (xLc (itR1 (aCons (xf 1) aNil)) [9] (gN 9) bYes (frz (x2 mulU (x2 ixU (xv 3) (xv 5)) (frz (x2 addD (xv 9) (xc (.int 1)))))))) sNil)
  (sSeq (sIf (bt (x2 eqD (xv 4) (xc (.int 1)))) (sSeq (sSet 6 (xLst (aCons (xc (.str "say")) (aCons (xc (.str "hear")) (aCons (xc (.str "done")) (aCons (xc (.str "one")) (aCons (xc (.str "other")) (aCons (xc (.str "a")) (aCons (xc (.str "ask")) (aCons (xc (.str "again")) (aCons (xc (.str "pair")) (aCons (xc (.str "lines")) (aCons (xc (.str "room")) (aCons (xc (.str "talk")) aNil))))))))))))))
  (sRet (xLc (itR1 (aCons (xf 1) aNil)) [9] (gN 9) bYes (x2 ixU (xv 6) (x2 modD (xB intD (aCons (frz (x2 addD (xv 5) (frz (x2 mulU (xc (.int 5)) (xv 9))))) aNil)) (xc (.int 12))))))) sNil)
  (sSeq (sSet 2 (xJoin (xc (.str "")) (frz (xLc (itR1 (aCons (frz (x2 addD (xc (.int 1)) (frz (xdef 2 F_l_coin (aCons (xv 0) (aCons (xc (.int 8)) aNil)))))) aNil)) [10] (gN 10) bYes (x2 ixU (xv 3) (frz (xdef 2 F_l_coin (aCons (xv 0) (aCons (xc (.int 26)) aNil)))))))))
  (sSeq (sAsg (xTup (aCons (frz (xdef 2 F_l_coin (aCons (xv 0) (aCons (xB lenU (aCons (xv 2) aNil)) aNil)))) (aCons (x2 ixU (frz (xLst (aCons (xc (.int 1)) (aCons (xc (.int 3)) (aCons (xc (.int 5)) (aCons (xc (.int 7)) (aCons (xc (.int 11)) aNil))))))) (frz (xdef 2 F_l_coin (aCons (xv 0) (aCons (xc (.int 5)) aNil))))) aNil))) (gT 2 (gsC (gN 7) (gsC (gN 8) gsN))))
  (sRet (xLc (itR1 (aCons (xf 1) aNil)) [9] (gN 9) bYes (frz (x2 addD (frz (x2 addD (frz (xSl slD (xv 2) oNone (oSome (xv 7)))) (x2 ixU (xv 3) (x2 modD (xB intD (aCons (frz (x2 addD (xv 5) (frz (x2 mulU (xv 8) (xv 9))))) aNil)) (xc (.int 26)))))) (frz (xSl slD (xv 2) (oSome (frz (x2 addD (xv 7) (xc (.int 1))))) oNone)))))))))))
def F_l_labels : M Val := semF 2 11 pg_l_labels
theorem sc_l_labels : FnScope ["mint", "many", "base", "letters", "way", "at", "texts_here", "spot", "pace", "k", "turn"] ["mint", "many"] (defScope s_l_labels) := ⟨rfl, rfl, rfl, by decide +kernel, rfl, by decide +kernel, by decide +kernel⟩
theorem ok_l_labels {P : Program} {w : World} {K : PySem.W.Frag} {mg : Str → Option Value} {base : Heap} {ad ca : Nat → Addr} {fd : Nat → FuncData} (T : TX K mg ad ca fd) :
    FnOk P w K mg base (L2.CX P w) 3 (ad 23) (fd 23) ["mint", "many"] (spF ⟨P, w, K, mg⟩ 2 F_l_labels) :=
  ok_fn T.f_l_labels sc_l_labels fun cdv A outer s H E hr =>
    by
    have nd := sc_l_labels.nd
    have hu := hr.units
    have tk : Takes (cxOf (L2.CX P w) P w K mg base ["mint", "many", "base", "letters", "way", "at", "texts_here", "spot", "pace", "k", "turn"] "_law_labels" (defScope s_l_labels) (ad 23) cdv A outer s H E) (fun cls d _ H => E cls d H) := takes_of rfl rfl rfl rfl
    exact (s_cons (s_asg (x_tup (a_cons x_str (a_cons (x_frz (x_call (ok_l_coin T) (hr.mono (by decide)) rfl T.g_l_coin T.k_l_coin T.b_l_coin tk (a_cons (x_v (pv 0)) (a_cons x_int a_nil)))) (a_cons (x_frz (x_call (ok_l_coin T) (hr.mono (by decide)) rfl T.g_l_coin T.k_l_coin T.b_l_coin tk (a_cons (x_v (pv 0)) (a_cons x_int a_nil)))) a_nil)))) (g_tup rfl (gs_cons (g_name (i := 3) nd rfl (by first | exact Or.inl rfl | exact Or.inr rfl)) (gs_cons (g_name (i := 4) nd rfl (by first | exact Or.inl rfl | exact Or.inr rfl)) (gs_cons (g_name (i := 5) nd rfl (by first | exact Or.inl rfl | exact Or.inr rfl)) gs_nil)))))
  (s_cons (s_if (PW.pt (b_and (b_cmp (op_eqU hu) opT_eq (x_v (pv 4)) x_int (nomark _)) (b_one (b_cmp opU_lt opT_lt (x_v (pv 1)) x_int (nomark _)) (.inl rfl)))) (s_one (s_ret (x_lc (vs := List.map Prod.snd ([("k", 9)] : List (Str × Nat))) (pe_lc (own := [("k", 9)]) rfl nd (i_range1 rfl T.n_range (a_cons (x_f (pv 1)) a_nil)) (blkOk_by (own := [("k", 9)]) (by kernel_rfl)) (fun _ _ _ _ _ => (g_name (i := 9) nd rfl (by first | exact Or.inl rfl | exact Or.inr rfl))) (fun _ _ _ _ _ => ts_nil) (fun _ _ _ _ _ => (x_frz (x_op opU_mul opT_mulU (x_ix (ix_all (hu65 hr)) opT_ixU (x_v (pv 3)) (x_v (pv 5)) (fun _ _ => rfl)) (x_frz (x_op opU_add opT_add (x_v (pv 9)) x_int)))))) (by decide)))) s_nil)
  (s_cons (s_if (b_cmp (op_eqU hu) opT_eq (x_v (pv 4)) x_int (nomark _)) (s_cons (s_set (i := 6) nd rfl (by first | exact Or.inl rfl | exact Or.inr rfl) (x_lst (a_cons x_str (a_cons x_str (a_cons x_str (a_cons x_str (a_cons x_str (a_cons x_str (a_cons x_str (a_cons x_str (a_cons x_str (a_cons x_str (a_cons x_str (a_cons x_str a_nil))))))))))))))
  (s_one (s_ret (x_lc (vs := List.map Prod.snd ([("k", 9)] : List (Str × Nat))) (pe_lc (own := [("k", 9)]) rfl nd (i_range1 rfl T.n_range (a_cons (x_f (pv 1)) a_nil)) (blkOk_by (own := [("k", 9)]) (by kernel_rfl)) (fun _ _ _ _ _ => (g_name (i := 9) nd rfl (by first | exact Or.inl rfl | exact Or.inr rfl))) (fun _ _ _ _ _ => ts_nil) (fun _ _ _ _ _ => (x_ix (ix_all (hu65 hr)) opT_ixU (x_v (pv 6)) (x_op op_mod opT_mod (x_B (pe_callTy call_int1 rfl T.n_int bb_int (a_cons (x_frz (x_op opU_add opT_add (x_v (pv 5)) (x_frz (x_op opU_mul opT_mulU x_int (x_v (pv 9)))))) a_nil)) callT_int) x_int) (fun _ _ => rfl)))) (by decide))))) s_nil)
  (s_cons (s_set (i := 2) nd rfl (by first | exact Or.inl rfl | exact Or.inr rfl) (x_join (pe_join x_str (x_frz (x_lc (vs := List.map Prod.snd ([("turn", 10)] : List (Str × Nat))) (pe_lc (own := [("turn", 10)]) rfl nd (i_range1 rfl T.n_range (a_cons (x_frz (x_op opU_add opT_add x_int (x_frz (x_call (ok_l_coin T) (hr.mono (by decide)) rfl T.g_l_coin T.k_l_coin T.b_l_coin tk (a_cons (x_v (pv 0)) (a_cons x_int a_nil)))))) a_nil)) (blkOk_by (own := [("turn", 10)]) (by kernel_rfl)) (fun _ _ _ _ _ => (g_name (i := 10) nd rfl (by first | exact Or.inl rfl | exact Or.inr rfl))) (fun _ _ _ _ _ => ts_nil) (fun _ _ _ _ _ => (x_ix (ix_all (hu65 hr)) opT_ixU (x_v (pv 3)) (x_frz (x_call (ok_l_coin T) (hr.mono (by decide)) rfl T.g_l_coin T.k_l_coin T.b_l_coin takes0 (a_cons (x_v (pv 0)) (a_cons x_int a_nil)))) (fun _ _ => rfl)))) (by decide))))))
  (s_cons (s_asg (x_tup (a_cons (x_frz (x_call (ok_l_coin T) (hr.mono (by decide)) rfl T.g_l_coin T.k_l_coin T.b_l_coin tk (a_cons (x_v (pv 0)) (a_cons (x_B (pe_callB callV_len rfl T.n_len bb_len (a_cons (x_v (pv 2)) a_nil)) callT_lenU) a_nil)))) (a_cons (x_ix (ix_all (hu65 hr)) opT_ixU (x_frz (x_lst (a_cons x_int (a_cons x_int (a_cons x_int (a_cons x_int (a_cons x_int a_nil))))))) (x_frz (x_call (ok_l_coin T) (hr.mono (by decide)) rfl T.g_l_coin T.k_l_coin T.b_l_coin tk (a_cons (x_v (pv 0)) (a_cons x_int a_nil)))) (fun _ _ => rfl)) a_nil))) (g_tup rfl (gs_cons (g_name (i := 7) nd rfl (by first | exact Or.inl rfl | exact Or.inr rfl)) (gs_cons (g_name (i := 8) nd rfl (by first | exact Or.inl rfl | exact Or.inr rfl)) gs_nil))))
  (s_one (s_ret (x_lc (vs := List.map Prod.snd ([("k", 9)] : List (Str × Nat))) (pe_lc (own := [("k", 9)]) rfl nd (i_range1 rfl T.n_range (a_cons (x_f (pv 1)) a_nil)) (blkOk_by (own := [("k", 9)]) (by kernel_rfl)) (fun _ _ _ _ _ => (g_name (i := 9) nd rfl (by first | exact Or.inl rfl | exact Or.inr rfl))) (fun _ _ _ _ _ => ts_nil) (fun _ _ _ _ _ => (x_frz (x_op opU_add opT_add (x_frz (x_op opU_add opT_add (x_frz (x_slice slU slT_any (x_v (pv 2)) o_none (o_some (x_v (pv 7))))) (x_ix (ix_all (hu65 hr)) opT_ixU (x_v (pv 3)) (x_op op_mod opT_mod (x_B (pe_callTy call_int1 rfl T.n_int bb_int (a_cons (x_frz (x_op opU_add opT_add (x_v (pv 5)) (x_frz (x_op opU_mul opT_mulU (x_v (pv 8)) (x_v (pv 9)))))) a_nil)) callT_int) x_int) (fun _ _ => rfl)))) (x_frz (x_slice slU slT_any (x_v (pv 2)) (o_some (x_frz (x_op opU_add opT_add (x_v (pv 7)) x_int))) o_none)))))) (by decide)))))))))
def pg_l_room_steps : SP :=
  (sSeq (sPar 6 7 (xdef 2 F_l_coin (aCons (xv 0) (aCons (xc (.int 6)) aNil))) (xDn 2))
  (sSeq (sFor (itR1 (aCons (frz (xIf (bt (x2 ltD (xv 6) (xc (.int 1)))) (xc (.int 0)) (x2 addD (xc (.int 1)) (frz (xdef 2 F_l_coin (aCons (xv 0) (aCons (xc (.int 3)) aNil))))))) aNil)) (gN 5)
  (sSeq (sSet 8 (x2 ixU (frz (xLst (aCons (xc (.str "!")) (aCons (xc (.str "?")) aNil)))) (frz (xIf (bOr (bt (xv 4)) (bt (x2 eqD (frz (xdef 2 F_l_coin (aCons (xv 0) (aCons (xc (.int 2)) aNil)))) (xc (.int 0))))) (x2 andD (xv 6) (xc (.int 1))) (xdef 2 F_l_coin (aCons (xv 0) (aCons (xc (.int 2)) aNil)))))))
  (sSeq (sPar 9 10 (x2 ixU (xv 2) (frz (xdef 2 F_l_coin (aCons (xv 0) (aCons (xB lenU (aCons (xv 2) aNil)) aNil))))) (x2 ixU (xv 3) (frz (xdef 2 F_l_coin (aCons (xv 0) (aCons (xB lenU (aCons (xv 3) aNil)) aNil))))))
  (sStU 7 (frz (xdef 2 F_l_coin (aCons (xv 0) (aCons (xf 1) aNil)))) (xTup (aCons (xf 8) (aCons (xf 9) (aCons (xf 10) aNil))))))))
  (sRet (xLc (itN 7) [11, 12] (gT 2 (gsC (gN 11) (gsC (gN 12) gsN))) bYes (xTup (aCons (x2 ixU (xv 11) (xc (.int 0))) (aCons (x2 ixU (xv 11) (xc (.int 1))) (aCons (x2 ixU (xv 11) (xc (.int 2))) (aCons (xf 12) aNil)))))))))
def F_l_room_steps : M Val := semF 5 13 pg_l_room_steps
theorem sc_l_room_steps : FnScope ["mint", "count", "lines_here", "words_here", "one_sign", "turn", "way", "steps_here", "sign", "line", "word", "told", "goal"] ["mint", "count", "lines_here", "words_here", "one_sign"] (defScope s_l_room_steps) := ⟨rfl, rfl, rfl, by decide +kernel, rfl, by decide +kernel, by decide +kernel⟩
theorem ok_l_room_steps {P : Program} {w : World} {K : PySem.W.Frag} {mg : Str → Option Value} {base : Heap} {ad ca : Nat → Addr} {fd : Nat → FuncData} (T : TX K mg ad ca fd) :
    FnOk P w K mg base (L2.CX P w) 3 (ad 24) (fd 24) ["mint", "count", "lines_here", "words_here", "one_sign"] (spF ⟨P, w, K, mg⟩ 5 F_l_room_steps) :=
  ok_fn T.f_l_room_steps sc_l_room_steps fun cdv A outer s H E hr =>
    by
    have nd := sc_l_room_steps.nd
    have hu := hr.units
    have tk : Takes (cxOf (L2.CX P w) P w K mg base ["mint", "count", "lines_here", "words_here", "one_sign", "turn", "way", "steps_here", "sign", "line", "word", "told", "goal"] "_law_room_steps" (defScope s_l_room_steps) (ad 24) cdv A outer s H E) (fun cls d _ H => E cls d H) := takes_of rfl rfl rfl rfl
    exact (s_cons (s_par (i := 6) (j := 7) rfl nd rfl rfl (by decide) rfl rfl (x_call (ok_l_coin T) (hr.mono (by decide)) rfl T.g_l_coin T.k_l_coin T.b_l_coin tk (a_cons (x_v (pv 0)) (a_cons x_int a_nil))) x_dn2 rfl)
  (s_cons (s_for (passes_of rfl) rfl (i_range1 rfl T.n_range (a_cons (x_frz (x_if (b_cmp opU_lt opT_lt (x_v (pv 6)) x_int (nomark _)) x_int (x_op opU_add opT_add x_int (x_frz (x_call (ok_l_coin T) (hr.mono (by decide)) rfl T.g_l_coin T.k_l_coin T.b_l_coin tk (a_cons (x_v (pv 0)) (a_cons x_int a_nil))))))) a_nil)) (g_name (i := 5) nd rfl (by first | exact Or.inl rfl | exact Or.inr rfl))
  (s_cons (s_set (i := 8) nd rfl (by first | exact Or.inl rfl | exact Or.inr rfl) (x_ix (ix_all (hu65 hr)) opT_ixU (x_frz (x_lst (a_cons x_str (a_cons x_str a_nil)))) (x_frz (x_if (PW.pt (b_or (b_val (x_v (pv 4))) (b_one (b_cmp (op_eqU hu) opT_eq (x_frz (x_call (ok_l_coin T) (hr.mono (by decide)) rfl T.g_l_coin T.k_l_coin T.b_l_coin tk (a_cons (x_v (pv 0)) (a_cons x_int a_nil)))) x_int (nomark _)) (.inr rfl)))) (x_op op_and opT_and (x_v (pv 6)) x_int) (x_call (ok_l_coin T) (hr.mono (by decide)) rfl T.g_l_coin T.k_l_coin T.b_l_coin tk (a_cons (x_v (pv 0)) (a_cons x_int a_nil))))) (fun _ _ => rfl)))
  (s_cons (s_par (i := 9) (j := 10) rfl nd rfl rfl (by decide) rfl rfl (x_ix (ix_all (hu65 hr)) opT_ixU (x_v (pv 2)) (x_frz (x_call (ok_l_coin T) (hr.mono (by decide)) rfl T.g_l_coin T.k_l_coin T.b_l_coin tk (a_cons (x_v (pv 0)) (a_cons (x_B (pe_callB callV_len rfl T.n_len bb_len (a_cons (x_v (pv 2)) a_nil)) callT_lenU) a_nil)))) (fun _ _ => rfl)) (x_ix (ix_all (hu65 hr)) opT_ixU (x_v (pv 3)) (x_frz (x_call (ok_l_coin T) (hr.mono (by decide)) rfl T.g_l_coin T.k_l_coin T.b_l_coin tk (a_cons (x_v (pv 0)) (a_cons (x_B (pe_callB callV_len rfl T.n_len bb_len (a_cons (x_v (pv 3)) a_nil)) callT_lenU) a_nil)))) (fun _ _ => rfl)) rfl)
  (s_one (s_stU (ps_asg (x_frz (x_call (ok_l_coin T) (hr.mono (by decide)) rfl T.g_l_coin T.k_l_coin T.b_l_coin tk (a_cons (x_v (pv 0)) (a_cons (x_f (pv 1)) a_nil)))) (pg_sub (pv 7) (x_tup (a_cons (x_f (pv 8)) (a_cons (x_f (pv 9)) (a_cons (x_f (pv 10)) a_nil)))) (set_any (hu65 hr)))))))))
  (s_one (s_ret (x_lc (vs := List.map Prod.snd ([("told", 11), ("goal", 12)] : List (Str × Nat))) (pe_lc (own := [("told", 11), ("goal", 12)]) rfl nd (i_items (pv 7)) (blkOk_by (own := [("told", 11), ("goal", 12)]) (by kernel_rfl)) (fun _ _ _ _ _ => (g_tup rfl (gs_cons (g_name (i := 11) nd rfl (by first | exact Or.inl rfl | exact Or.inr rfl)) (gs_cons (g_name (i := 12) nd rfl (by first | exact Or.inl rfl | exact Or.inr rfl)) gs_nil)))) (fun _ _ _ _ _ => ts_nil) (fun _ _ _ _ _ => (x_tup (a_cons (x_ix (ix_all (hu65 hr)) opT_ixU (x_v (pv 11)) x_int (fun _ _ => rfl)) (a_cons (x_ix (ix_all (hu65 hr)) opT_ixU (x_v (pv 11)) x_int (fun _ _ => rfl)) (a_cons (x_ix (ix_all (hu65 hr)) opT_ixU (x_v (pv 11)) x_int (fun _ _ => rfl)) (a_cons (x_f (pv 12)) a_nil))))))) (by decide))))))
def pg_l_plan_of : SP :=
  (sSeq (sSet 5 (x2 addD (xc (.int 1)) (frz (xdef 2 F_l_coin (aCons (xv 0) (aCons (xf 1) aNil))))))
  (sRet (xLc (itR1 (aCons (xf 5) aNil)) [6] (gN 6) bYes (frz (xdef 5 F_l_room_steps (aCons (xv 0) (aCons (xf 5) (aCons (xf 2) (aCons (xf 3) (aCons (xf 4) aNil))))))))))
def F_l_plan_of : M Val := semF 5 7 pg_l_plan_of
theorem sc_l_plan_of : FnScope ["mint", "most", "lines_here", "words_here", "one_sign", "count", "turn"] ["mint", "most", "lines_here", "words_here", "one_sign"] (defScope s_l_plan_of) := ⟨rfl, rfl, rfl, by decide +kernel, rfl, by decide +kernel, by decide +kernel⟩
theorem ok_l_plan_of {P : Program} {w : World} {K : PySem.W.Frag} {mg : Str → Option Value} {base : Heap} {ad ca : Nat → Addr} {fd : Nat → FuncData} (T : TX K mg ad ca fd) :
    FnOk P w K mg base (L2.CX P w) 4 (ad 25) (fd 25) ["mint", "most", "lines_here", "words_here", "one_sign"] (spF ⟨P, w, K, mg⟩ 5 F_l_plan_of) :=
  ok_fn T.f_l_plan_of sc_l_plan_of fun cdv A outer s H E hr =>
    by
    have nd := sc_l_plan_of.nd
    have hu := hr.units
    have tk : Takes (cxOf (L2.CX P w) P w K mg base ["mint", "most", "lines_here", "words_here", "one_sign", "count", "turn"] "_law_plan_of" (defScope s_l_plan_of) (ad 25) cdv A outer s H E) (fun cls d _ H => E cls d H) := takes_of rfl rfl rfl rfl
    exact (s_cons (s_set (i := 5) nd rfl (by first | exact Or.inl rfl | exact Or.inr rfl) (x_op opU_add opT_add x_int (x_frz (x_call (ok_l_coin T) (hr.mono (by decide)) rfl T.g_l_coin T.k_l_coin T.b_l_coin tk (a_cons (x_v (pv 0)) (a_cons (x_f (pv 1)) a_nil))))))
  (s_one (s_ret (x_lc (vs := List.map Prod.snd ([("turn", 6)] : List (Str × Nat))) (pe_lc (own := [("turn", 6)]) rfl nd (i_range1 rfl T.n_range (a_cons (x_f (pv 5)) a_nil)) (blkOk_by (own := [("turn", 6)]) (by kernel_rfl)) (fun _ _ _ _ _ => (g_name (i := 6) nd rfl (by first | exact Or.inl rfl | exact Or.inr rfl))) (fun _ _ _ _ _ => ts_nil) (fun _ _ _ _ _ => (x_frz (x_call (ok_l_room_steps T) (hr.mono (by decide)) rfl T.g_l_room_steps T.k_l_room_steps T.b_l_room_steps takes0 (a_cons (x_v (pv 0)) (a_cons (x_f (pv 5)) (a_cons (x_f (pv 2)) (a_cons (x_f (pv 3)) (a_cons (x_f (pv 4)) a_nil))))))))) (by decide)))))
def pg_l_made_service : SP :=
  (sRet (frz (xMk "Service" 2 F_Service___init (aCons (frz (xLc (itD (xf 0)) [1] (gN 1) bYes (frz (xB listD (aCons (xv 1) aNil))))) aNil))))
def F_l_made_service : M Val := semF 1 2 pg_l_made_service
theorem sc_l_made_service : FnScope ["plan", "steps_here"] ["plan"] (defScope s_l_made_service) := ⟨rfl, rfl, rfl, by decide +kernel, rfl, by decide +kernel, by decide +kernel⟩
theorem ok_l_made_service {P : Program} {w : World} {K : PySem.W.Frag} {mg : Str → Option Value} {base : Heap} {ad ca : Nat → Addr} {fd : Nat → FuncData} (T : TX K mg ad ca fd) :
    FnOk P w K mg base (L2.CX P w) 7 (ad 28) (fd 28) ["plan"] (spF ⟨P, w, K, mg⟩ 1 F_l_made_service) :=
  ok_fn T.f_l_made_service sc_l_made_service fun cdv A outer s H E hr =>
    by
    have nd := sc_l_made_service.nd
    have hu := hr.units
    have tk : Takes (cxOf (L2.CX P w) P w K mg base ["plan", "steps_here"] "_law_made_service" (defScope s_l_made_service) (ad 28) cdv A outer s H E) (fun cls d _ H => E cls d H) := takes_of rfl rfl rfl rfl
    exact (s_one (s_ret (x_frz (x_mk T.mk_Service (ok_Service___init T) (hr.mono (by decide)) rfl T.g_Service T.b_Service___init tk (a_cons (x_frz (x_lc (vs := List.map Prod.snd ([("steps_here", 1)] : List (Str × Nat))) (pe_lc (own := [("steps_here", 1)]) rfl nd (i_any (x_f (pv 0))) (blkOk_by (own := [("steps_here", 1)]) (by kernel_rfl)) (fun _ _ _ _ _ => (g_name (i := 1) nd rfl (by first | exact Or.inl rfl | exact Or.inr rfl))) (fun _ _ _ _ _ => ts_nil) (fun _ _ _ _ _ => (x_frz (x_B (pe_callTy call_list_of rfl T.n_list bb_list (a_cons (x_v (pv 1)) a_nil)) callT_list)))) (by decide))) a_nil)))))
def pg_l_goal : SP :=
  (sSeq (sSet 2 (xc .non))
  (sSeq (sFor (itD (xf 0)) (gT 4 (gsC (gN 3) (gsC (gN 4) (gsC (gN 5) (gsC (gN 6) gsN)))))
  (sIf (bt (x2 eqD (xTup (aCons (xf 3) (aCons (xf 4) (aCons (xf 5) aNil)))) (xv 1))) (sSet 2 (xf 6)) sNil))
  (sRet (xm 2))))
def F_l_goal : M Val := semF 2 7 pg_l_goal
theorem sc_l_goal : FnScope ["steps_here", "key", "found", "sign", "line", "word", "goal"] ["steps_here", "key"] (defScope s_l_goal) := ⟨rfl, rfl, rfl, by decide +kernel, rfl, by decide +kernel, by decide +kernel⟩
theorem ok_l_goal {P : Program} {w : World} {K : PySem.W.Frag} {mg : Str → Option Value} {base : Heap} {ad ca : Nat → Addr} {fd : Nat → FuncData} (T : TX K mg ad ca fd) :
    FnOk P w K mg base (L2.CX P w) 2 (ad 29) (fd 29) ["steps_here", "key"] (spF ⟨P, w, K, mg⟩ 2 F_l_goal) :=
  ok_fn T.f_l_goal sc_l_goal fun cdv A outer s H E hr =>
    by
    have nd := sc_l_goal.nd
    have hu := hr.units
    have tk : Takes (cxOf (L2.CX P w) P w K mg base ["steps_here", "key", "found", "sign", "line", "word", "goal"] "_law_goal" (defScope s_l_goal) (ad 29) cdv A outer s H E) (fun cls d _ H => E cls d H) := takes_of rfl rfl rfl rfl
    exact (s_cons (s_set (i := 2) nd rfl (by first | exact Or.inl rfl | exact Or.inr rfl) x_non)
  (s_cons (s_for (passes_of rfl) rfl (i_any (x_f (pv 0))) (g_tup rfl (gs_cons (g_name (i := 3) nd rfl (by first | exact Or.inl rfl | exact Or.inr rfl)) (gs_cons (g_name (i := 4) nd rfl (by first | exact Or.inl rfl | exact Or.inr rfl)) (gs_cons (g_name (i := 5) nd rfl (by first | exact Or.inl rfl | exact Or.inr rfl)) (gs_cons (g_name (i := 6) nd rfl (by first | exact Or.inl rfl | exact Or.inr rfl)) gs_nil)))))
  (s_one (s_if (b_cmp (op_eqU hu) opT_eq (x_tup (a_cons (x_f (pv 3)) (a_cons (x_f (pv 4)) (a_cons (x_f (pv 5)) a_nil)))) (x_v (pv 1)) (nomark _)) (s_one (s_set (i := 2) nd rfl (by first | exact Or.inl rfl | exact Or.inr rfl) (x_f (pv 6)))) s_nil)))
  (s_one (s_ret (x_m (pv 2))))))
def pg_l_has_row : SP :=
  (sSeq (sSet 2 (xc (.int 0)))
  (sSeq (sForB 1 (gN 3)
  (sIf (bt (x2 isntD (xv 2) (xc .non))) (sSet 2 (xdef 2 F_l_goal (aCons (x2 ixU (xv 0) (xv 2)) (aCons (xf 3) aNil)))) sNil))
  (sRet (x2 isntD (xv 2) (xc .non)))))
def F_l_has_row : M Val := semF 2 4 pg_l_has_row
theorem sc_l_has_row : FnScope ["plan", "path", "at", "key"] ["plan", "path"] (defScope s_l_has_row) := ⟨rfl, rfl, rfl, by decide +kernel, rfl, by decide +kernel, by decide +kernel⟩
theorem ok_l_has_row {P : Program} {w : World} {K : PySem.W.Frag} {mg : Str → Option Value} {base : Heap} {ad ca : Nat → Addr} {fd : Nat → FuncData} (T : TX K mg ad ca fd) :
    FnOk P w K mg base (L2.CX P w) 3 (ad 33) (fd 33) ["plan", "path"] (spF ⟨P, w, K, mg⟩ 2 F_l_has_row) :=
  ok_fn T.f_l_has_row sc_l_has_row fun cdv A outer s H E hr =>
    by
    have nd := sc_l_has_row.nd
    have hu := hr.units
    have tk : Takes (cxOf (L2.CX P w) P w K mg base ["plan", "path", "at", "key"] "_law_has_row" (defScope s_l_has_row) (ad 33) cdv A outer s H E) (fun cls d _ H => E cls d H) := takes_of rfl rfl rfl rfl
    exact (s_cons (s_set (i := 2) nd rfl (by first | exact Or.inl rfl | exact Or.inr rfl) x_int)
  (s_cons (s_forB (i := 1) (passes_of rfl) rfl (i_any (x_f (pv 1))) (i_own (pv 1)) (g_name (i := 3) nd rfl (by first | exact Or.inl rfl | exact Or.inr rfl))
  (s_one (s_if (b_cmp op_notN1 opT_isnt (x_v (pv 2)) x_non (nomark _)) (s_one (s_set (i := 2) nd rfl (by first | exact Or.inl rfl | exact Or.inr rfl) (x_call (ok_l_goal T) (hr.mono (by decide)) rfl T.g_l_goal T.k_l_goal T.b_l_goal tk (a_cons (x_ix (ix_all (hu65 hr)) opT_ixU (x_v (pv 0)) (x_v (pv 2)) (fun _ _ => rfl)) (a_cons (x_f (pv 3)) a_nil))))) s_nil)))
  (s_one (s_ret (x_cmp op_notN1 opT_isnt (x_v (pv 2)) x_non (nomark _))))))
def pg_l_walk : SP :=
  (sSeq (sPar 4 5 (xc (.int 0)) (xLst aNil))
  (sSeq (sFor (itR1 (aCons (frz (xdef 2 F_l_coin (aCons (xv 0) (aCons (frz (x2 addD (xv 2) (xc (.int 1)))) aNil)))) aNil)) (gN 3)
  (sIf (bt (x2 neD (x2 ixU (xv 1) (xv 4)) (frz (xLst aNil)))) (sSeq (sSet 6 (x2 ixU (x2 ixU (xv 1) (xv 4)) (frz (xdef 2 F_l_coin (aCons (xv 0) (aCons (xB lenU (aCons (x2 ixU (xv 1) (xv 4)) aNil)) aNil))))))
  (sSeq (sDrop (xMut 5 gApp (aCons (frz (xSl slD (xv 6) oNone (oSome (xc (.int 3))))) aNil)))
  (sSet 4 (x2 ixU (xv 6) (xc (.int 3)))))) sNil))
  (sRet (xm 5))))
def F_l_walk : M Val := semF 3 7 pg_l_walk
theorem sc_l_walk : FnScope ["mint", "plan", "most", "turn", "at", "path", "step"] ["mint", "plan", "most"] (defScope s_l_walk) := ⟨rfl, rfl, rfl, by decide +kernel, rfl, by decide +kernel, by decide +kernel⟩
theorem ok_l_walk {P : Program} {w : World} {K : PySem.W.Frag} {mg : Str → Option Value} {base : Heap} {ad ca : Nat → Addr} {fd : Nat → FuncData} (T : TX K mg ad ca fd) :
    FnOk P w K mg base (L2.CX P w) 3 (ad 34) (fd 34) ["mint", "plan", "most"] (spF ⟨P, w, K, mg⟩ 3 F_l_walk) :=
  ok_fn T.f_l_walk sc_l_walk fun cdv A outer s H E hr =>
    by
    have nd := sc_l_walk.nd
    have hu := hr.units
    have tk : Takes (cxOf (L2.CX P w) P w K mg base ["mint", "plan", "most", "turn", "at", "path", "step"] "_law_walk" (defScope s_l_walk) (ad 34) cdv A outer s H E) (fun cls d _ H => E cls d H) := takes_of rfl rfl rfl rfl
    exact (s_cons (s_par (i := 4) (j := 5) rfl nd rfl rfl (by decide) rfl rfl x_int (x_lst a_nil) rfl)
  (s_cons (s_for (passes_of rfl) rfl (i_range1 rfl T.n_range (a_cons (x_frz (x_call (ok_l_coin T) (hr.mono (by decide)) rfl T.g_l_coin T.k_l_coin T.b_l_coin tk (a_cons (x_v (pv 0)) (a_cons (x_frz (x_op opU_add opT_add (x_v (pv 2)) x_int)) a_nil)))) a_nil)) (g_name (i := 3) nd rfl (by first | exact Or.inl rfl | exact Or.inr rfl))
  (s_one (s_if (b_cmp (op_neU hu) opT_ne (x_ix (ix_all (hu65 hr)) opT_ixU (x_v (pv 1)) (x_v (pv 4)) (fun _ _ => rfl)) (x_frz (x_lst a_nil)) (nomark _)) (s_cons (s_set (i := 6) nd rfl (by first | exact Or.inl rfl | exact Or.inr rfl) (x_ix (ix_all (hu65 hr)) opT_ixU (x_ix (ix_all (hu65 hr)) opT_ixU (x_v (pv 1)) (x_v (pv 4)) (fun _ _ => rfl)) (x_frz (x_call (ok_l_coin T) (hr.mono (by decide)) rfl T.g_l_coin T.k_l_coin T.b_l_coin tk (a_cons (x_v (pv 0)) (a_cons (x_B (pe_callB callV_len rfl T.n_len bb_len (a_cons (x_ix (ix_all (hu65 hr)) opT_ixU (x_v (pv 1)) (x_v (pv 4)) (fun _ _ => rfl)) a_nil)) callT_lenU) a_nil)))) (fun _ _ => rfl)))
  (s_cons (s_expr (x_mut (pe_bm PySem.F.plainAttrs_list PySem.F.slot_list_append PySem.F.type_list_append mt_append (pv 5) (a_cons (x_frz (x_slice slU slT_any (x_v (pv 6)) o_none (o_some x_int))) a_nil)) mutT_app))
  (s_one (s_set (i := 4) nd rfl (by first | exact Or.inl rfl | exact Or.inr rfl) (x_ix (ix_all (hu65 hr)) opT_ixU (x_v (pv 6)) x_int (fun _ _ => rfl)))))) s_nil)))
  (s_one (s_ret (x_m (pv 5))))))
def pg_l_bent_row : SP :=
  (sSeq (sSet 4 (xTup (aCons (x2 ixU (frz (xLst (aCons (xc (.str "!")) (aCons (xc (.str "?")) aNil)))) (frz (xdef 2 F_l_coin (aCons (xv 0) (aCons (xc (.int 2)) aNil))))) (aCons (x2 ixU (xv 2) (frz (xdef 2 F_l_coin (aCons (xv 0) (aCons (xc (.int 2)) aNil))))) (aCons (x2 ixU (xv 3) (frz (xdef 2 F_l_coin (aCons (xv 0) (aCons (xc (.int 3)) aNil))))) aNil)))))
  (sSeq (sPar 6 7 (xdef 2 F_l_coin (aCons (xv 0) (aCons (frz (x2 addD (xB lenU (aCons (xv 1) aNil)) (xc (.int 1)))) aNil))) (xdef 2 F_l_coin (aCons (xv 0) (aCons (xc (.int 4)) aNil))))
  (sSeq (sIf (bt (x2 eqD (xv 7) (xc (.int 0)))) (sRet (x2 addD (frz (x2 addD (frz (xSl slD (xv 1) oNone (oSome (xv 6)))) (frz (xLst (aCons (xf 4) aNil))))) (frz (xSl slD (xv 1) (oSome (xv 6)) oNone)))) sNil)
  (sSeq (sIf (bOr (bt (x2 eqD (xv 7) (xc (.int 1)))) (bt (x2 eqD (xv 6) (xB lenU (aCons (xv 1) aNil))))) (sRet (x2 addD (frz (xSl slD (xv 1) oNone (oSome (xv 6)))) (frz (xSl slD (xv 1) (oSome (frz (x2 addD (xv 6) (xc (.int 1))))) oNone)))) sNil)
  (sSeq (sSet 5 (xLst (aCons (xTup (aCons (x2 ixU (xv 4) (xc (.int 0))) (aCons (x2 ixU (x2 ixU (xv 1) (xv 6)) (xc (.int 1))) (aCons (x2 ixU (x2 ixU (xv 1) (xv 6)) (xc (.int 2))) aNil)))) (aCons (xTup (aCons (x2 ixU (x2 ixU (xv 1) (xv 6)) (xc (.int 0))) (aCons (x2 ixU (xv 4) (xc (.int 1))) (aCons (x2 ixU (x2 ixU (xv 1) (xv 6)) (xc (.int 2))) aNil)))) (aCons (xTup (aCons (x2 ixU (x2 ixU (xv 1) (xv 6)) (xc (.int 0))) (aCons (x2 ixU (x2 ixU (xv 1) (xv 6)) (xc (.int 1))) (aCons (x2 ixU (xv 4) (xc (.int 2))) aNil)))) aNil)))))
  (sRet (x2 addD (frz (x2 addD (frz (xSl slD (xv 1) oNone (oSome (xv 6)))) (frz (xLst (aCons (x2 ixU (xv 5) (frz (xdef 2 F_l_coin (aCons (xv 0) (aCons (xc (.int 3)) aNil))))) aNil))))) (frz (xSl slD (xv 1) (oSome (frz (x2 addD (xv 6) (xc (.int 1))))) oNone)))))))))
def F_l_bent_row : M Val := semF 4 8 pg_l_bent_row
theorem sc_l_bent_row : FnScope ["mint", "path", "lines_here", "words_here", "key", "base", "at", "way"] ["mint", "path", "lines_here", "words_here"] (defScope s_l_bent_row) := ⟨rfl, rfl, rfl, by decide +kernel, rfl, by decide +kernel, by decide +kernel⟩
theorem ok_l_bent_row {P : Program} {w : World} {K : PySem.W.Frag} {mg : Str → Option Value} {base : Heap} {ad ca : Nat → Addr} {fd : Nat → FuncData} (T : TX K mg ad ca fd) :
    FnOk P w K mg base (L2.CX P w) 3 (ad 35) (fd 35) ["mint", "path", "lines_here", "words_here"] (spF ⟨P, w, K, mg⟩ 4 F_l_bent_row) :=
  ok_fn T.f_l_bent_row sc_l_bent_row fun cdv A outer s H E hr =>
    by
    have nd := sc_l_bent_row.nd
    have hu := hr.units
    have tk : Takes (cxOf (L2.CX P w) P w K mg base ["mint", "path", "lines_here", "words_here", "key", "base", "at", "way"] "_law_bent_row" (defScope s_l_bent_row) (ad 35) cdv A outer s H E) (fun cls d _ H => E cls d H) := takes_of rfl rfl rfl rfl
    exact (s_cons (s_set (i := 4) nd rfl (by first | exact Or.inl rfl | exact Or.inr rfl) (x_tup (a_cons (x_ix (ix_all (hu65 hr)) opT_ixU (x_frz (x_lst (a_cons x_str (a_cons x_str a_nil)))) (x_frz (x_call (ok_l_coin T) (hr.mono (by decide)) rfl T.g_l_coin T.k_l_coin T.b_l_coin tk (a_cons (x_v (pv 0)) (a_cons x_int a_nil)))) (fun _ _ => rfl)) (a_cons (x_ix (ix_all (hu65 hr)) opT_ixU (x_v (pv 2)) (x_frz (x_call (ok_l_coin T) (hr.mono (by decide)) rfl T.g_l_coin T.k_l_coin T.b_l_coin tk (a_cons (x_v (pv 0)) (a_cons x_int a_nil)))) (fun _ _ => rfl)) (a_cons (x_ix (ix_all (hu65 hr)) opT_ixU (x_v (pv 3)) (x_frz (x_call (ok_l_coin T) (hr.mono (by decide)) rfl T.g_l_coin T.k_l_coin T.b_l_coin tk (a_cons (x_v (pv 0)) (a_cons x_int a_nil)))) (fun _ _ => rfl)) a_nil)))))
  (s_cons (s_par (i := 6) (j := 7) rfl nd rfl rfl (by decide) rfl rfl (x_call (ok_l_coin T) (hr.mono (by decide)) rfl T.g_l_coin T.k_l_coin T.b_l_coin tk (a_cons (x_v (pv 0)) (a_cons (x_frz (x_op opU_add opT_add (x_B (pe_callB callV_len rfl T.n_len bb_len (a_cons (x_v (pv 1)) a_nil)) callT_lenU) x_int)) a_nil))) (x_call (ok_l_coin T) (hr.mono (by decide)) rfl T.g_l_coin T.k_l_coin T.b_l_coin tk (a_cons (x_v (pv 0)) (a_cons x_int a_nil))) rfl)
  (s_cons (s_if (b_cmp (op_eqU hu) opT_eq (x_v (pv 7)) x_int (nomark _)) (s_one (s_ret (x_op opU_add opT_add (x_frz (x_op opU_add opT_add (x_frz (x_slice slU slT_any (x_v (pv 1)) o_none (o_some (x_v (pv 6))))) (x_frz (x_lst (a_cons (x_f (pv 4)) a_nil))))) (x_frz (x_slice slU slT_any (x_v (pv 1)) (o_some (x_v (pv 6))) o_none))))) s_nil)
  (s_cons (s_if (PW.pt (b_or (b_cmp (op_eqU hu) opT_eq (x_v (pv 7)) x_int (nomark _)) (b_one (b_cmp (op_eqU hu) opT_eq (x_v (pv 6)) (x_B (pe_callB callV_len rfl T.n_len bb_len (a_cons (x_v (pv 1)) a_nil)) callT_lenU) (nomark _)) (.inr rfl)))) (s_one (s_ret (x_op opU_add opT_add (x_frz (x_slice slU slT_any (x_v (pv 1)) o_none (o_some (x_v (pv 6))))) (x_frz (x_slice slU slT_any (x_v (pv 1)) (o_some (x_frz (x_op opU_add opT_add (x_v (pv 6)) x_int))) o_none))))) s_nil)
  (s_cons (s_set (i := 5) nd rfl (by first | exact Or.inl rfl | exact Or.inr rfl) (x_lst (a_cons (x_tup (a_cons (x_ix (ix_all (hu65 hr)) opT_ixU (x_v (pv 4)) x_int (fun _ _ => rfl)) (a_cons (x_ix (ix_all (hu65 hr)) opT_ixU (x_ix (ix_all (hu65 hr)) opT_ixU (x_v (pv 1)) (x_v (pv 6)) (fun _ _ => rfl)) x_int (fun _ _ => rfl)) (a_cons (x_ix (ix_all (hu65 hr)) opT_ixU (x_ix (ix_all (hu65 hr)) opT_ixU (x_v (pv 1)) (x_v (pv 6)) (fun _ _ => rfl)) x_int (fun _ _ => rfl)) a_nil)))) (a_cons (x_tup (a_cons (x_ix (ix_all (hu65 hr)) opT_ixU (x_ix (ix_all (hu65 hr)) opT_ixU (x_v (pv 1)) (x_v (pv 6)) (fun _ _ => rfl)) x_int (fun _ _ => rfl)) (a_cons (x_ix (ix_all (hu65 hr)) opT_ixU (x_v (pv 4)) x_int (fun _ _ => rfl)) (a_cons (x_ix (ix_all (hu65 hr)) opT_ixU (x_ix (ix_all (hu65 hr)) opT_ixU (x_v (pv 1)) (x_v (pv 6)) (fun _ _ => rfl)) x_int (fun _ _ => rfl)) a_nil)))) (a_cons (x_tup (a_cons (x_ix (ix_all (hu65 hr)) opT_ixU (x_ix (ix_all (hu65 hr)) opT_ixU (x_v (pv 1)) (x_v (pv 6)) (fun _ _ => rfl)) x_int (fun _ _ => rfl)) (a_cons (x_ix (ix_all (hu65 hr)) opT_ixU (x_ix (ix_all (hu65 hr)) opT_ixU (x_v (pv 1)) (x_v (pv 6)) (fun _ _ => rfl)) x_int (fun _ _ => rfl)) (a_cons (x_ix (ix_all (hu65 hr)) opT_ixU (x_v (pv 4)) x_int (fun _ _ => rfl)) a_nil)))) a_nil)))))
  (s_one (s_ret (x_op opU_add opT_add (x_frz (x_op opU_add opT_add (x_frz (x_slice slU slT_any (x_v (pv 1)) o_none (o_some (x_v (pv 6))))) (x_frz (x_lst (a_cons (x_ix (ix_all (hu65 hr)) opT_ixU (x_v (pv 5)) (x_frz (x_call (ok_l_coin T) (hr.mono (by decide)) rfl T.g_l_coin T.k_l_coin T.b_l_coin tk (a_cons (x_v (pv 0)) (a_cons x_int a_nil)))) (fun _ _ => rfl)) a_nil))))) (x_frz (x_slice slU slT_any (x_v (pv 1)) (o_some (x_frz (x_op opU_add opT_add (x_v (pv 6)) x_int))) o_none))))))))))
def pg_l_fits : SP :=
  (sSeq (sSet 1 (xdef 2 F_l_labels (aCons (xv 0) (aCons (xc (.int 5)) aNil))))
  (sSeq (sPar 5 6 (xSl slD (xv 1) oNone (oSome (xc (.int 2)))) (xSl slD (xv 1) (oSome (xc (.int 2))) oNone))
  (sSeq (sSet 2 (xdef 5 F_l_plan_of (aCons (xv 0) (aCons (xc (.int 7)) (aCons (xf 5) (aCons (xf 6) (aCons (xc (.bl false)) aNil)))))))
  (sSeq (sSet 3 (frz (xdef 1 F_l_made_service (aCons (xf 2) aNil))))
  (sSeq (sFor (itR1 (aCons (xc (.int 6)) aNil)) (gN 4)
  (sSeq (sSet 7 (xdef 3 F_l_walk (aCons (xv 0) (aCons (xf 2) (aCons (x2 ixU (frz (xLst (aCons (xc (.int 5)) (aCons (xc (.int 29)) aNil)))) (frz (xdef 2 F_l_coin (aCons (xv 0) (aCons (xc (.int 2)) aNil))))) aNil)))))
  (sForN3 7 8 (xdef 4 F_l_bent_row (aCons (xv 0) (aCons (xv 7) (aCons (xf 5) (aCons (xf 6) aNil))))) (xSl slD (xv 7) oNone (oSome (frz (xdef 2 F_l_coin (aCons (xv 0) (aCons (frz (x2 addD (xB lenU (aCons (xv 7) aNil)) (xc (.int 1)))) aNil))))))
  (sSeq (sPar 9 10 (xB listD (aCons (xv 8) aNil)) (xdef 2 F_l_has_row (aCons (xf 2) (aCons (xv 8) aNil))))
  (sSeq (sIf (bOr (bt (x2 neD (xB reprD (aCons (frz (xLst (aCons (frz (xMeth "Service" "has" 2 F_Service_has (xv 3) (aCons (xv 8) aNil))) (aCons (frz (xMeth "Service" "has" 2 F_Service_has (xv 3) (aCons (xv 8) aNil))) aNil)))) aNil)) (xB reprD (aCons (frz (xLst (aCons (xf 10) (aCons (xf 10) aNil)))) aNil)))) (bt (x2 neD (xv 8) (xv 9)))) (sRet (xc (.bl false))) sNil)
  (sSeq (sDrop (xMut 8 gApp (aCons (xTup (aCons (xc (.str "!")) (aCons (x2 ixU (xv 5) (xc (.int 0))) (aCons (x2 ixU (xv 6) (xc (.int 0))) aNil)))) aNil)))
  (sIf (bAnd (bt (x2 ltD (xB lenU (aCons (xv 8) aNil)) (xc (.int 31)))) (bt (x2 neD (xB reprD (aCons (frz (xMeth "Service" "has" 2 F_Service_has (xv 3) (aCons (xv 8) aNil))) aNil)) (xB reprD (aCons (frz (xdef 2 F_l_has_row (aCons (xf 2) (aCons (xv 8) aNil)))) aNil))))) (sRet (xc (.bl false))) sNil)))))))
  (sRet (x2 isBD (frz (xMeth "Service" "has" 2 F_Service_has (xv 3) (aCons (frz (xLst aNil)) aNil))) (xc (.bl true)))))))))
def F_l_fits : M Val := semF 1 11 pg_l_fits
theorem sc_l_fits : FnScope ["mint", "names_here", "plan", "made", "turn", "lines_here", "words_here", "path", "some", "kept", "owed"] ["mint"] (defScope s_l_fits) := ⟨rfl, rfl, rfl, by decide +kernel, rfl, by decide +kernel, by decide +kernel⟩
theorem ok_l_fits {P : Program} {w : World} {K : PySem.W.Frag} {mg : Str → Option Value} {base : Heap} {ad ca : Nat → Addr} {fd : Nat → FuncData} (T : TX K mg ad ca fd) :
    FnG P w K mg base 8 (ad 36) (fd 36) ["mint"] (spF ⟨P, w, K, mg⟩ 1 F_l_fits) :=
  ok_fnG T.f_l_fits sc_l_fits fun cdv A outer s H E gd hr =>
    by
    have nd := sc_l_fits.nd
    have hu := hr.units
    have tk : Takes (cxOf (L2.CX P w) P w K mg base ["mint", "names_here", "plan", "made", "turn", "lines_here", "words_here", "path", "some", "kept", "owed"] "_law_fits" (defScope s_l_fits) (ad 36) cdv A outer s H E) (fun cls d _ H => E cls d H) := takes_of rfl rfl rfl rfl
    exact (s_cons (s_set (i := 1) nd rfl (by first | exact Or.inl rfl | exact Or.inr rfl) (x_call (ok_l_labels T) (hr.mono (by decide)) rfl T.g_l_labels T.k_l_labels T.b_l_labels tk (a_cons (x_v (pv 0)) (a_cons x_int a_nil))))
  (s_cons (s_par (i := 5) (j := 6) rfl nd rfl rfl (by decide) rfl rfl (x_slice slU slT_any (x_v (pv 1)) o_none (o_some x_int)) (x_slice slU slT_any (x_v (pv 1)) (o_some x_int) o_none) rfl)
  (s_cons (s_set (i := 2) nd rfl (by first | exact Or.inl rfl | exact Or.inr rfl) (x_call (ok_l_plan_of T) (hr.mono (by decide)) rfl T.g_l_plan_of T.k_l_plan_of T.b_l_plan_of tk (a_cons (x_v (pv 0)) (a_cons x_int (a_cons (x_f (pv 5)) (a_cons (x_f (pv 6)) (a_cons x_bl a_nil)))))))
  (s_cons (s_set (i := 3) nd rfl (by first | exact Or.inl rfl | exact Or.inr rfl) (x_frz (x_call (ok_l_made_service T) (hr.mono (by decide)) rfl T.g_l_made_service T.k_l_made_service T.b_l_made_service tk (a_cons (x_f (pv 2)) a_nil))))
  (s_cons (s_for (passes_of rfl) rfl (i_range1 rfl T.n_range (a_cons x_int a_nil)) (g_name (i := 4) nd rfl (by first | exact Or.inl rfl | exact Or.inr rfl))
  (s_cons (s_set (i := 7) nd rfl (by first | exact Or.inl rfl | exact Or.inr rfl) (x_call (ok_l_walk T) (hr.mono (by decide)) rfl T.g_l_walk T.k_l_walk T.b_l_walk tk (a_cons (x_v (pv 0)) (a_cons (x_f (pv 2)) (a_cons (x_ix (ix_all (hu65 hr)) opT_ixU (x_frz (x_lst (a_cons x_int (a_cons x_int a_nil)))) (x_frz (x_call (ok_l_coin T) (hr.mono (by decide)) rfl T.g_l_coin T.k_l_coin T.b_l_coin tk (a_cons (x_v (pv 0)) (a_cons x_int a_nil)))) (fun _ _ => rfl)) a_nil)))))
  (s_one (s_forN3 (j := 7) (i := 8) (passes_of rfl) rfl (pg_name (i := 8) nd rfl (by first | exact Or.inl rfl | exact Or.inr rfl)) (pv 7) (x_call (ok_l_bent_row T) (hr.mono (by decide)) rfl T.g_l_bent_row T.k_l_bent_row T.b_l_bent_row tk (a_cons (x_v (pv 0)) (a_cons (x_v (pv 7)) (a_cons (x_f (pv 5)) (a_cons (x_f (pv 6)) a_nil))))) (x_slice slU slT_any (x_v (pv 7)) o_none (o_some (x_frz (x_call (ok_l_coin T) (hr.mono (by decide)) rfl T.g_l_coin T.k_l_coin T.b_l_coin tk (a_cons (x_v (pv 0)) (a_cons (x_frz (x_op opU_add opT_add (x_B (pe_callB callV_len rfl T.n_len bb_len (a_cons (x_v (pv 7)) a_nil)) callT_lenU) x_int)) a_nil))))))
  (s_cons (s_par (i := 9) (j := 10) rfl nd rfl rfl (by decide) rfl rfl (x_B (pe_callTy call_list_of rfl T.n_list bb_list (a_cons (x_v (pv 8)) a_nil)) callT_list) (x_call (ok_l_has_row T) (hr.mono (by decide)) rfl T.g_l_has_row T.k_l_has_row T.b_l_has_row tk (a_cons (x_f (pv 2)) (a_cons (x_v (pv 8)) a_nil))) rfl)
  (s_cons (s_if (PW.pt (b_or (b_cmp (op_neU hu) opT_ne (x_repr gd (hu65 hr) rfl T.n_repr (a_cons (x_frz (x_lst (a_cons (x_frz (x_meth (c := "Service") T.g_Service T.cl_Service T.me_has (ok_Service_has T) (hr.mono (by decide)) T.b_Service_has tk (x_v (pv 3)) (a_cons (x_v (pv 8)) a_nil))) (a_cons (x_frz (x_methN (c := "Service") T.g_Service T.cl_Service T.me_has (ok_Service_has T) (hr.mono (by decide)) (T.m_Service_has_row) tk (x_v (pv 3)) (k_cons (x_v (pv 8)) k_nil))) a_nil)))) a_nil)) (x_repr gd (hu65 hr) rfl T.n_repr (a_cons (x_frz (x_lst (a_cons (x_f (pv 10)) (a_cons (x_f (pv 10)) a_nil)))) a_nil)) (nomark _)) (b_one (b_cmp (op_neU hu) opT_ne (x_v (pv 8)) (x_v (pv 9)) (nomark _)) (.inr rfl)))) (s_one (s_ret x_bl)) s_nil)
  (s_cons (s_expr (x_mut (pe_bm PySem.F.plainAttrs_list PySem.F.slot_list_append PySem.F.type_list_append mt_append (pv 8) (a_cons (x_tup (a_cons x_str (a_cons (x_ix (ix_all (hu65 hr)) opT_ixU (x_v (pv 5)) x_int (fun _ _ => rfl)) (a_cons (x_ix (ix_all (hu65 hr)) opT_ixU (x_v (pv 6)) x_int (fun _ _ => rfl)) a_nil)))) a_nil)) mutT_app))
  (s_one (s_if (PW.pt (b_and (b_cmp opU_lt opT_lt (x_B (pe_callB callV_len rfl T.n_len bb_len (a_cons (x_v (pv 8)) a_nil)) callT_lenU) x_int (nomark _)) (b_one (b_cmp (op_neU hu) opT_ne (x_repr gd (hu65 hr) rfl T.n_repr (a_cons (x_frz (x_meth (c := "Service") T.g_Service T.cl_Service T.me_has (ok_Service_has T) (hr.mono (by decide)) T.b_Service_has tk (x_v (pv 3)) (a_cons (x_v (pv 8)) a_nil))) a_nil)) (x_repr gd (hu65 hr) rfl T.n_repr (a_cons (x_frz (x_call (ok_l_has_row T) (hr.mono (by decide)) rfl T.g_l_has_row T.k_l_has_row T.b_l_has_row tk (a_cons (x_f (pv 2)) (a_cons (x_v (pv 8)) a_nil)))) a_nil)) (nomark _)) (.inl rfl)))) (s_one (s_ret x_bl)) s_nil)))))))))
  (s_one (s_ret (x_cmp op_isB opT_isB (x_frz (x_meth (c := "Service") T.g_Service T.cl_Service T.me_has (ok_Service_has T) (hr.mono (by decide)) T.b_Service_has tk (x_v (pv 3)) (a_cons (x_frz (x_lst a_nil)) a_nil))) x_bl (nomark _)))))))))
def pg_lawdef : SP :=
  (sSeq (sFor (itR1 (aCons (xB max2D (aCons (xc (.int 1)) (aCons (xB min2D (aCons (xc (.int 24)) (aCons (xB lenU (aCons (xv 0) aNil)) aNil))) aNil))) aNil)) (gN 1)
  (sSeq (sSet 2 (xdef 2 F_l_mint (aCons (xf 0) (aCons (xf 1) aNil))))
  (sFor (itR1 (aCons (xc (.int 1)) aNil)) (gN 3)
  (sIf (bNot (bt (frz (xdef 1 F_l_fits (aCons (xv 2) aNil))))) (sRet (xc (.bl false))) sNil))))
  (sRet (xc (.bl true))))
def F_lawdef : M Val := semF 1 4 pg_lawdef
theorem sc_lawdef : FnScope ["script", "place", "mint", "turn"] ["script"] (defScope s_lawdef) := ⟨rfl, rfl, rfl, by decide +kernel, rfl, by decide +kernel, by decide +kernel⟩
theorem ok_lawdef {P : Program} {w : World} {K : PySem.W.Frag} {mg : Str → Option Value} {base : Heap} {ad ca : Nat → Addr} {fd : Nat → FuncData} (T : TX K mg ad ca fd) :
    FnG P w K mg base 9 (ad 37) (fd 37) ["script"] (spF ⟨P, w, K, mg⟩ 1 F_lawdef) :=
  ok_fnG T.f_lawdef sc_lawdef fun cdv A outer s H E gd hr =>
    by
    have nd := sc_lawdef.nd
    have hu := hr.units
    have tk : Takes (cxOf (L2.CX P w) P w K mg base ["script", "place", "mint", "turn"] "law" (defScope s_lawdef) (ad 37) cdv A outer s H E) (fun cls d _ H => E cls d H) := takes_of rfl rfl rfl rfl
    exact (s_cons (s_for (passes_of rfl) rfl (i_range1 rfl T.n_range (a_cons (x_B (pe_callB (call_max2 rfl) rfl T.n_max bb_max (a_cons x_int (a_cons (x_B (pe_callB (call_min2 rfl) rfl T.n_min bb_min (a_cons x_int (a_cons (x_B (pe_callB callV_len rfl T.n_len bb_len (a_cons (x_v (pv 0)) a_nil)) callT_lenU) a_nil))) callT_min2) a_nil))) callT_max2) a_nil)) (g_name (i := 1) nd rfl (by first | exact Or.inl rfl | exact Or.inr rfl))
  (s_cons (s_set (i := 2) nd rfl (by first | exact Or.inl rfl | exact Or.inr rfl) (x_call (ok_l_mint T) (hr.mono (by decide)) rfl T.g_l_mint T.k_l_mint T.b_l_mint tk (a_cons (x_f (pv 0)) (a_cons (x_f (pv 1)) a_nil))))
  (s_one (s_for (passes_of rfl) rfl (i_range1 rfl T.n_range (a_cons x_int a_nil)) (g_name (i := 3) nd rfl (by first | exact Or.inl rfl | exact Or.inr rfl))
  (s_one (s_if (b_not (b_val (x_frz (x_callG (ok_l_fits T) gd (hr.mono (by decide)) rfl T.g_l_fits T.k_l_fits T.b_l_fits tk (a_cons (x_v (pv 2)) a_nil))))) (s_one (s_ret x_bl)) s_nil))))))
  (s_one (s_ret x_bl)))
end
end LW
namespace LW
open PySem PySem.Spec PyProof.Rows L2 VE
local macro_rules | `(tactic| simp! only [$as,*]) => `(tactic| simp -dsimp only [Tk_bind, Tk_pure, Tk_none, Tk_xc, Tk_xv, Tk_xf, Tk_xm, Tk_frz, Tk_x2, Tk_x1, Tk_bt, Tk_bAnd, Tk_bOr, Tk_bNot, Tk_xAnd, Tk_xOr, Tk_xNot, Tk_xIf, Tk_aNil, Tk_aCons, Tk_xTup, Tk_xLst, Tk_xB, Tk_xSet, Tk_oNone, Tk_oSome, Tk_xSl, Tk_xChain, Ts_sNil, Ts_sBrk, Ts_sCnt, Ts_sSeq, Ts_sDrop, Ts_sRet, Ts_sRetN, Ts_sIf, Ts_sSet, Ts_sAsg, Ts_sPar, Ts_sPar3, Ts_sFor, Ts_sWhile, Ts_sRaise, Sq, Tk_itN, itnO_own, Ts_sForO, Tk_itD, Tk_itR1, Tk_itR2, Tk_itE, Tk_itZ, Tk_callE, Tk_xdef, Tk_xNam, Tk_xMk, Tk_aRecv, Tk_xMeth, Tk_xProp, Tk_xFld, Tk_two, Tk_lenO, Tk_xOpO, Tk_xIsI, Tk_xDn, Tk_xDisp1, Tk_xJoin, Tk_xEv, Tk_xIsE, Tk_bYes, Tk_xMut, Ts_stU, Ts_sStU, Ts_sFldE, Ts_sTry, Ts_sSetE, Tk_semF, Tk_xLc, Bif_t, Bif_f, So_some, So_none, So_map, So_bind, So_ite, So_ite', rdv, xfk, xmk, frv, bov, nfr, inv1, fzo, itv, enuv, zipv, ncal, xcal, lastI, nmk, xmkx, fldv, natv, one1, Stu, owE, fldk, Tryk, endk, turn, Tg, endO, mapO, restO, ownB, itemsO_t, itemsO_f, deref, derefs, fzs, stow_fz, stow_fr, ioo_none, ioo_fz, ioo_own, ioo_io, argsE, backE, bors, ioB, Bnd.d, Bnd.put, Bnd.ow, putE, ownL, ownD, wipeE, restE, okV, gN, gsN, gsC, gT, flatD, noBox, open_, opens, openV, pick, isIns, intsV, Tg_gN, Int.cast_ofNat_Int, Int.natCast_zero, Int.natCast_one, eqB_int, eqB_str, eqB_bl, joinD, opens_str, opens_str', nobox_str, nobox_str', opens_int, opens_int', nobox_int, nobox_int', opens_bl, opens_bl', nobox_bl, nobox_bl', addD, subD, mulD, mulU, divD, modD, powD, andD, cmpD, ltD, gtD, leD, geD, eqD, neD, isD, isntD, VE.isNon, ixD, lenU, lenD, VE.intD, absD, max2D, min2D, listD, tupleD, boolsD, anyD, allD, negD, List.getElem?_cons_zero, List.getElem?_cons_succ, List.getElem?_nil, List.length_cons, List.length_nil, List.set_cons_zero, List.set_cons_succ, List.set_nil, List.cons_append, List.nil_append, List.append_nil, List.replicate_succ, List.replicate_zero, List.all_cons, List.all_nil, List.map_cons, List.map_nil, List.any_cons, List.any_nil, List.getLast?_cons_cons, List.getLast?_singleton, List.dropLast_cons₂, List.dropLast_singleton, List.getD_cons_zero, List.getD_cons_succ, List.getD_nil, List.nodup_nil, List.nodup_cons, List.not_mem_nil, List.mem_cons, List.mem_singleton, Option.bind_some, Option.bind_none, Option.map_some, Option.map_none, id, Option.isSome_some, Option.isSome_none, and_true, true_and, and_self, and_false, false_and, or_true, true_or, or_false, false_or, not_true_eq_false, not_false_eq_true, if_true, if_false, ite_true, ite_false, reduceCtorEq, Bool.not_true, Bool.not_false, Bool.and_true, Bool.true_and, Bool.and_false, Bool.false_and, Bool.or_true, Bool.true_or, decide_true, decide_false, Bool.and_self, Bool.or_self, Bool.or_false, Bool.false_or, Bool.not_not, eq_self, forall_const, implies_true, Nat.reduceAdd, Nat.reduceSub, Nat.reduceMul, Nat.reduceLT, Nat.reduceLeDiff, Nat.reduceEqDiff, Nat.reduceBEq, Nat.reduceSucc, Int.reduceAdd, Int.reduceSub, Int.reduceMul, Int.reduceLT, Int.reduceLE, Int.reduceEq, Int.reduceNeg, Int.reduceToNat, Int.reduceNe, Nat.reduceGT, Int.reduceDiv, Int.reduceMod, Nat.zero_add, Nat.reduceDiv, Nat.reduceMod, $as,*])
structure Mint where
  g : Int
  s : Int
  c : Int
def mtD (m : Mint) : D := .lst [.int m.g, .int m.s, .int m.c]
abbrev mtB (m : Mint) : Option Bnd := some (.io (.lst [.int m.g, .int m.s, .int m.c]))
structure MOk (n : Nat) (m : Mint) : Prop where
  g : 0 ≤ m.g
  s0 : 0 ≤ m.s
  s1 : m.s < 2 ^ 62
  c0 : 0 ≤ m.c
  c1 : m.c ≤ n
theorem atI0 {α : Type} {a b c : α} : atI [a, b, c] 0 = some a := rfl
theorem atI1 {α : Type} {a b c : α} : atI [a, b, c] 1 = some b := rfl
theorem atI2 {α : Type} {a b c : α} : atI [a, b, c] 2 = some c := rfl
theorem ixN0 : ixN 3 0 = some 0 := rfl
theorem ixN2 : ixN 3 2 = some 2 := rfl
theorem log2_small {k : Int} (k0 : 0 < k) (k1 : k < 2 ^ 128) : k.natAbs.log2 < 9000 := by
  have : k.natAbs < 2 ^ 128 := by omega
  have h := (Nat.log2_lt (by omega)).mpr this
  omega
theorem small_c {i : Int} (h : -(2 ^ 64) < i ∧ i < 2 ^ 64 := by decide) : small i = true := by unfold small; exact decide_eq_true h
theorem coin_spec {n : Nat} {m : Mint} (h : MOk n m) (hn : n < 2 ^ 31) {k : Int} (k0 : 0 < k) (k1 : k < 2 ^ 128) :
    Tk F_l_coin [mtB m, some (.fz (.int k))] (fun v e => ∃ r m', v = .fz (.int r) ∧ 0 ≤ r ∧ r < k ∧ MOk (n + 1) m' ∧ e = [mtB m', none]) NX := by
  unfold F_l_coin pg_l_coin mtB
  simp! only [ixU, rng1, rng2, slD, inU, notInU, atI0, atI1, atI2, ixN0, ixN2]
  obtain ⟨hg, hs0, hs1, hc0, hc1⟩ := h
  refine Bif.mkd (fun hp => ?_) (fun hp => ?_)
  · simp! only [ixU, rng1, rng2, slD, inU, notInU, atI0, atI1, atI2, ixN0, ixN2]
    refine ⟨k0, ⟨k0, log2_small k0 k1⟩, ?_⟩
    refine ⟨_, ⟨m.g / k, m.s, m.c⟩, rfl, Int.emod_nonneg _ (by omega), Int.emod_lt_of_pos _ k0, ⟨?_, hs0, hs1, hc0, ?_⟩, rfl⟩
    · exact Int.ediv_nonneg hg (by omega)
    · show m.c ≤ _; omega
  · simp! only [ixU, rng1, rng2, slD, inU, notInU, atI0, atI1, atI2, ixN0, ixN2]
    refine ⟨.inl small_c, by omega, .inl small_c, .inl small_c, ?_, by decide, k0, _, ⟨m.g, m.s, m.c + 1⟩, rfl, Int.emod_nonneg _ (by omega), Int.emod_lt_of_pos _ k0, ⟨hg, hs0, hs1, ?_, ?_⟩, rfl⟩
    · have h1 := Int.emod_nonneg ((m.s + 6700417 * (m.c + 1)) ^ 3 + 97 * (m.c + 1)) (b := 2305843009213693951) (by decide)
      have h2 := Int.emod_lt_of_pos ((m.s + 6700417 * (m.c + 1)) ^ 3 + 97 * (m.c + 1)) (b := 2305843009213693951) (by decide)
      generalize ((m.s + 6700417 * (m.c + 1)) ^ 3 + 97 * (m.c + 1)) % 2305843009213693951 = z at h1 h2 ⊢
      omega
    · show 0 ≤ m.c + 1; omega
    · show m.c + 1 ≤ _; omega
theorem MOk.up {n k : Nat} {m : Mint} (h : MOk n m) (l : n ≤ k) : MOk k m := ⟨h.g, h.s0, h.s1, h.c0, by have := h.c1; omega⟩
theorem mint_spec {ns : List Int} {p : Nat} (hl : ns.length ≤ 63) (hp : p < 64) :
    Tk F_l_mint [some (.fz (.scr ns)), some (.fz (.int p))] (fun v e => ∃ m, v = .fr (mtD m) ∧ MOk 0 m ∧ e = [none, none]) NX := by
  unfold F_l_mint pg_l_mint mtD
  simp! only [ixU, rng1, rng2, slD, inU, notInU]
  refine Bif.mkd (fun h => ?_) (fun h => ?_)
  · have hi : p < ns.length := by omega
    simp! only [ixU, rng1, rng2, slD, inU, notInU, atI_nat (List.getElem?_eq_getElem hi)]
    generalize ns[p] = z
    refine ⟨.inr small_c, by decide, .inr ?_, .inl small_c, ?_⟩
    · split <;> exact small_c
    · refine ⟨⟨_, _, _⟩, rfl, ⟨?_, ?_, ?_, Int.le_refl _, Int.le_refl _⟩⟩
      · dsimp only
        split
        · rename_i h2
          have := of_decide_eq_true h2
          have : (0:Int) ≤ z := by
            have h3 : (0:Int) ≤ 10 ^ (18:Int).toNat := by decide
            omega
          omega
        · omega
      all_goals
        dsimp only
        generalize (_ : Int) * 2 + _ = y
        have h1 := Int.emod_nonneg y (b := 2305843009213693951) (by decide)
        have h2 := Int.emod_lt_of_pos y (b := 2305843009213693951) (by decide)
        omega
  · simp! only [ixU, rng1, rng2, slD, inU, notInU]
    refine ⟨.inl small_c, by decide, .inl small_c, .inl small_c, ⟨_, _, _⟩, rfl, ⟨by dsimp only; omega, by dsimp only; omega, by dsimp only; omega, Int.le_refl _, Int.le_refl _⟩⟩
end LW
namespace LW
open PySem PySem.Spec PyProof.Rows L2 VE
local macro_rules | `(tactic| simp! only [$as,*]) => `(tactic| simp -dsimp only [Tk_bind, Tk_pure, Tk_none, Tk_xc, Tk_xv, Tk_xf, Tk_xm, Tk_frz, Tk_x2, Tk_x1, Tk_bt, Tk_bAnd, Tk_bOr, Tk_bNot, Tk_xAnd, Tk_xOr, Tk_xNot, Tk_xIf, Tk_aNil, Tk_aCons, Tk_xTup, Tk_xLst, Tk_xB, Tk_xSet, Tk_oNone, Tk_oSome, Tk_xSl, Tk_xChain, Ts_sNil, Ts_sBrk, Ts_sCnt, Ts_sSeq, Ts_sDrop, Ts_sRet, Ts_sRetN, Ts_sIf, Ts_sSet, Ts_sAsg, Ts_sPar, Ts_sPar3, Ts_sFor, Ts_sWhile, Ts_sRaise, Sq, Tk_itN, itnO_own, Ts_sForO, Tk_itD, Tk_itR1, Tk_itR2, Tk_itE, Tk_itZ, Tk_callE, Tk_xdef, Tk_xNam, Tk_xMk, Tk_aRecv, Tk_xMeth, Tk_xProp, Tk_xFld, Tk_two, Tk_lenO, Tk_xOpO, Tk_xIsI, Tk_xDn, Tk_xDisp1, Tk_xJoin, Tk_xEv, Tk_xIsE, Tk_bYes, Tk_xMut, Ts_stU, Ts_sStU, Ts_sFldE, Ts_sTry, Ts_sSetE, Tk_semF, Tk_xLc, Bif_t, Bif_f, So_some, So_none, So_map, So_bind, So_ite, So_ite', rdv, xfk, xmk, frv, bov, nfr, inv1, fzo, itv, enuv, zipv, ncal, xcal, lastI, nmk, xmkx, fldv, natv, one1, Stu, owE, fldk, Tryk, endk, turn, Tg, endO, mapO, restO, ownB, itemsO_t, itemsO_f, deref, derefs, fzs, stow_fz, stow_fr, ioo_none, ioo_fz, ioo_own, ioo_io, argsE, backE, bors, ioB, Bnd.d, Bnd.put, Bnd.ow, putE, ownL, ownD, wipeE, restE, okV, gN, gsN, gsC, gT, flatD, noBox, open_, opens, openV, pick, isIns, intsV, Tg_gN, Int.cast_ofNat_Int, Int.natCast_zero, Int.natCast_one, eqB_int, eqB_str, eqB_bl, joinD, opens_str, opens_str', nobox_str, nobox_str', opens_int, opens_int', nobox_int, nobox_int', opens_bl, opens_bl', nobox_bl, nobox_bl', addD, subD, mulD, mulU, divD, modD, powD, andD, cmpD, ltD, gtD, leD, geD, eqD, neD, isD, isntD, VE.isNon, ixD, lenU, lenD, VE.intD, absD, max2D, min2D, listD, tupleD, boolsD, anyD, allD, negD, List.getElem?_cons_zero, List.getElem?_cons_succ, List.getElem?_nil, List.length_cons, List.length_nil, List.set_cons_zero, List.set_cons_succ, List.set_nil, List.cons_append, List.nil_append, List.append_nil, List.replicate_succ, List.replicate_zero, List.all_cons, List.all_nil, List.map_cons, List.map_nil, List.any_cons, List.any_nil, List.getLast?_cons_cons, List.getLast?_singleton, List.dropLast_cons₂, List.dropLast_singleton, List.getD_cons_zero, List.getD_cons_succ, List.getD_nil, List.nodup_nil, List.nodup_cons, List.not_mem_nil, List.mem_cons, List.mem_singleton, Option.bind_some, Option.bind_none, Option.map_some, Option.map_none, id, Option.isSome_some, Option.isSome_none, and_true, true_and, and_self, and_false, false_and, or_true, true_or, or_false, false_or, not_true_eq_false, not_false_eq_true, if_true, if_false, ite_true, ite_false, reduceCtorEq, Bool.not_true, Bool.not_false, Bool.and_true, Bool.true_and, Bool.and_false, Bool.false_and, Bool.or_true, Bool.true_or, decide_true, decide_false, Bool.and_self, Bool.or_self, Bool.or_false, Bool.false_or, Bool.not_not, eq_self, forall_const, implies_true, Nat.reduceAdd, Nat.reduceSub, Nat.reduceMul, Nat.reduceLT, Nat.reduceLeDiff, Nat.reduceEqDiff, Nat.reduceBEq, Nat.reduceSucc, Int.reduceAdd, Int.reduceSub, Int.reduceMul, Int.reduceLT, Int.reduceLE, Int.reduceEq, Int.reduceNeg, Int.reduceToNat, Int.reduceNe, Nat.reduceGT, Int.reduceDiv, Int.reduceMod, Nat.zero_add, Nat.reduceDiv, Nat.reduceMod, $as,*])
abbrev ch (c : Nat) : Str := ⟨#[c]⟩
def Lo (c : Nat) : Prop := 97 ≤ c ∧ c ≤ 122
def Good (s : Str) : Prop := 1 ≤ s.length ∧ s.length ≤ 8 ∧ ∀ c ∈ s.cps.toList, Lo c
abbrev abc : Str := "abcdefghijklmnopqrstuvwxyz"
theorem str_ext {s t : Str} (h : s.cps.toList = t.cps.toList) : s = t := by
  cases s; cases t
  congr 1
  exact Array.ext' h
theorem str_len (s : Str) : s.length = s.cps.toList.length := by show s.cps.size = _; simp
theorem abc_at {r : Int} (h0 : 0 ≤ r) (h1 : r < 26) : ixU (.str abc) (.int r) = some (.fz (.str (ch (97 + r.toNat)))) := by
  have : ∀ i : _root_.Fin 26, atI abc.cps.toList ((i.val : Nat) : Int) = some (97 + i.val) := by decide +kernel
  have h2 := this ⟨r.toNat, by omega⟩
  have h3 : ((r.toNat : Nat) : Int) = r := by omega
  simp only [h3] at h2
  show (if abc.length ≤ 100000 then (atI abc.cps.toList r).map fun c => Val.fz (.str (ch c)) else none) = _
  rw [if_pos (by decide +kernel), h2]; rfl
theorem strJoin_chs : ∀ cs : List Nat, (Str.join (⟨#[]⟩ : Str) (cs.map ch)).cps.toList = cs
  | [] => rfl
  | [c] => rfl
  | c :: d :: cs => by
    have ih := strJoin_chs (d :: cs)
    show ((ch c) ++ (⟨#[]⟩ : Str) ++ Str.join ⟨#[]⟩ ((d :: cs).map ch)).cps.toList = _
    show (#[c] ++ #[] ++ (Str.join (⟨#[]⟩ : Str) ((d :: cs).map ch)).cps).toList = _
    rw [Array.toList_append, ih]
    rfl
theorem join_chs (cs : List Nat) : (Txt.join (⟨#[]⟩ : Str) (cs.map ch)).cps.toList = cs := by
  have h : Txt.join (⟨#[]⟩ : Str) (cs.map ch) = Str.join (⟨#[]⟩ : Str) (cs.map ch) := eq_of_beq (join_closes rfl)
  rw [h]; exact strJoin_chs cs
theorem strs_map {α : Type} (f : α → Str) : ∀ l : List α, strsD (l.map fun x => D.str (f x)) = some (l.map f)
  | [] => rfl
  | x :: l => by simp only [List.map_cons, strsD, strs_map f l, Option.map_some]
theorem rng_of {j : Nat} (h : j < 2 ^ 62) : rng1 [(j : Int)] = some ((List.range j).map fun i => D.int ((i : Nat) : Int)) := by
  unfold rng1
  simp only []
  rw [if_pos (by unfold wee; exact decide_eq_true ⟨by omega, by omega⟩)]
  rfl
theorem rng_of' {j : Int} (h0 : 0 ≤ j) (h : j < 2 ^ 62) : rng1 [j] = some ((List.range j.toNat).map fun i => D.int ((i : Nat) : Int)) := by
  unfold rng1
  simp only []
  rw [if_pos (by unfold wee; exact decide_eq_true ⟨by omega, by omega⟩)]
theorem nodup_range_map {α : Type} {f : Nat → α} {k : Nat} (inj : ∀ i j, i < k → j < k → f i = f j → i = j) : ((List.range k).map f).Nodup := by
  unfold List.Nodup
  rw [List.pairwise_map]
  refine List.Pairwise.imp_of_mem ?_ (List.pairwise_lt_range (n := k))
  intro a b ha hb hab h
  have := inj a b (List.mem_range.mp ha) (List.mem_range.mp hb) h
  omega
theorem cut_to {s : Str} {v : Int} (h0 : 0 ≤ v) (h1 : v ≤ s.length) : (cutS s none (some v)).cps.toList = s.cps.toList.take v.toNat := by
  unfold cutS
  have e : (some v) = some ((v.toNat : Nat) : Int) := by congr 1; omega
  simp only [HT.sIx_none]
  rw [e, HT.sIx_nat, List.drop_zero, Nat.min_eq_left (by omega)]
  rfl
theorem cut_from {s : Str} {v : Int} (h0 : 0 ≤ v) (h1 : v ≤ s.length) : (cutS s (some v) none).cps.toList = s.cps.toList.drop v.toNat := by
  unfold cutS
  have e : (some v) = some ((v.toNat : Nat) : Int) := by congr 1; omega
  simp only [HT.sIx_none]
  rw [e, HT.sIx_nat, Nat.min_eq_left (by omega)]
  show List.take _ _ = _
  rw [List.take_of_length_le]
  rw [List.length_drop, str_len]
  exact Nat.le_refl _
theorem cut_from' {s : Str} {v : Int} (h0 : 0 ≤ v) : (cutS s (some v) none).cps.toList = s.cps.toList.drop v.toNat := by
  unfold cutS
  have e : (some v) = some ((v.toNat : Nat) : Int) := by congr 1; omega
  simp only [HT.sIx_none]
  rw [e, HT.sIx_nat]
  show List.take _ _ = _
  rw [List.take_of_length_le (by rw [List.length_drop, str_len]; exact Nat.le_refl _)]
  by_cases z : v.toNat ≤ s.length
  · rw [Nat.min_eq_left z]
  · rw [Nat.min_eq_right (by omega), List.drop_eq_nil_of_le (by rw [str_len]; exact Nat.le_refl _), List.drop_eq_nil_of_le (by rw [← str_len]; omega)]
theorem app_cps (s t : Str) : (s ++ t).cps.toList = s.cps.toList ++ t.cps.toList := by
  show (s.cps ++ t.cps).toList = _
  simp
theorem letters_lr {n : Nat} (hn : n < 2 ^ 30) {e0 : SE} (k : Nat) (hk : k < 2 ^ 20) {m : Mint} (h : MOk n m) (vs : List Nat) (t : TgD) (el : M Val) (mk : Mint → SE) (he : e0 = mk m)
    (ok : ∀ m, okV (mk m) vs = true)
    (st : ∀ n' m (i : Nat), n' < 2 ^ 31 → MOk n' m → Tg t (.int i) (wipeE (mk m) vs) fun e1 => Tk el e1 (fun v e3 => ∃ c m', v = .fz (.str (ch c)) ∧ Lo c ∧ MOk (n' + 1) m' ∧ restE (mk m) e3 vs = mk m') NX)
    {Q : Val → SE → Prop} (hQ : ∀ (cs : List Nat) m', cs.length = k → (∀ c ∈ cs, Lo c) → MOk (n + k) m' → Q (.fr (.lst (cs.map fun c => D.str (ch c)))) (mk m')) :
    Lr vs t bYes el ((List.range k).map fun i => D.int ((i : Nat) : Int)) [] e0 Q := by
  refine Lr.inv (List.range k) (fun pre acc e => ∃ (cs : List Nat) (m' : Mint), acc = cs.map (fun c => D.str (ch c)) ∧ cs.length = pre.length ∧ (∀ c ∈ cs, Lo c) ∧ MOk (n + pre.length) m' ∧ e = mk m') ⟨[], m, rfl, rfl, by simp, h, he⟩ ?_ ?_
  · rintro pre x post acc e hx ⟨cs, m', rfl, hl, hc, hm, rfl⟩
    have hlen : pre.length < k := by
      have := congrArg List.length hx
      simp at this
      omega
    refine ⟨ok m', ?_⟩
    refine (st (n + pre.length) m' x (by omega) hm).mono fun e1 h1 => ?_
    rw [Tk_bYes, Bif_t]
    refine h1.mono' ?_
    rintro v e3 ⟨c, m2, rfl, hlo, hm2, he3⟩
    show So (some _) _
    rw [So_some]
    refine ⟨cs ++ [c], m2, by simp, by simp [hl], ?_, ?_, he3⟩
    · intro c' hc'
      rcases List.mem_append.mp hc' with z | z
      · exact hc c' z
      · rw [List.mem_singleton.mp z]; exact hlo
    · rw [List.length_append]; exact hm2
  · rintro acc e ⟨cs, m', rfl, hl, hc, hm, rfl⟩
    simp only [List.length_range] at hl hm
    exact hQ cs m' hl hc hm
theorem rep_cps (c : Nat) (i : Nat) : (Txt.mul (ch c) ((i : Int) + 1)).cps.toList = List.replicate (i + 1) c := by
  rw [mul_one_list]; congr 1
abbrev names12 : List Str := ["say", "hear", "done", "one", "other", "a", "ask", "again", "pair", "lines", "room", "talk"]
theorem good12 : ∀ s ∈ names12, Good s := by
  have h : ∀ s ∈ names12, (1 ≤ s.length ∧ s.length ≤ 8) ∧ ∀ c ∈ s.cps.toList, 97 ≤ c ∧ c ≤ 122 := by decide +kernel
  exact fun s hs => ⟨(h s hs).1.1, (h s hs).1.2, (h s hs).2⟩
theorem nodup12 : names12.Nodup := by decide +kernel
def at12 (i : Int) : Str := names12.getD (i.toNat % 12) ⟨#[]⟩
theorem ix12 {i : Int} (h0 : 0 ≤ i) (h1 : i < 12) : ixU (.lst [.str "say", .str "hear", .str "done", .str "one", .str "other", .str "a", .str "ask", .str "again", .str "pair", .str "lines", .str "room", .str "talk"]) (.int i) = some (.fz (.str (at12 i))) := by
  have h2 : ((i.toNat : Nat) : Int) = i := by omega
  show (atI [D.str "say", .str "hear", .str "done", .str "one", .str "other", .str "a", .str "ask", .str "again", .str "pair", .str "lines", .str "room", .str "talk"] i).map Val.fz = _
  have h3 : i.toNat < 12 := by omega
  rw [← h2]
  have h4 : ([D.str "say", .str "hear", .str "done", .str "one", .str "other", .str "a", .str "ask", .str "again", .str "pair", .str "lines", .str "room", .str "talk"])[i.toNat]? = some (.str (at12 ((i.toNat : Nat) : Int))) := by
    have : [D.str "say", .str "hear", .str "done", .str "one", .str "other", .str "a", .str "ask", .str "again", .str "pair", .str "lines", .str "room", .str "talk"] = names12.map D.str := rfl
    rw [this, List.getElem?_map]
    unfold at12
    rw [Int.toNat_natCast, Nat.mod_eq_of_lt h3, List.getD_eq_getElem?_getD, List.getElem?_eq_getElem (by exact h3)]
    rfl
  rw [atI_nat h4]; rfl
theorem at12_mem {i : Int} : at12 i ∈ names12 := by
  unfold at12
  rw [List.getD_eq_getElem?_getD, List.getElem?_eq_getElem (by show _ % 12 < 12; omega)]
  exact List.getElem_mem _
theorem at12_inj {i j : Int} (h0 : 0 ≤ i) (h1 : i < 12) (h2 : 0 ≤ j) (h3 : j < 12) (h : at12 i = at12 j) : i = j := by
  unfold at12 at h
  rw [List.getD_eq_getElem?_getD, List.getElem?_eq_getElem (by show _ % 12 < 12; omega), List.getD_eq_getElem?_getD, List.getElem?_eq_getElem (by show _ % 12 < 12; omega)] at h
  have := (List.getElem_inj nodup12).mp h
  omega
theorem ix5 {i : Int} (h0 : 0 ≤ i) (h1 : i < 5) : ∃ p : Int, ixU (.lst [.int 1, .int 3, .int 5, .int 7, .int 11]) (.int i) = some (.fz (.int p)) ∧ (p = 1 ∨ p = 3 ∨ p = 5 ∨ p = 7 ∨ p = 11) := by
  have : i = 0 ∨ i = 1 ∨ i = 2 ∨ i = 3 ∨ i = 4 := by omega
  rcases this with rfl | rfl | rfl | rfl | rfl
  · exact ⟨1, rfl, by simp⟩
  · exact ⟨3, rfl, by simp⟩
  · exact ⟨5, rfl, by simp⟩
  · exact ⟨7, rfl, by simp⟩
  · exact ⟨11, rfl, by simp⟩
def other (b : Str) (sp : Int) (c : Nat) : Str := cutS b none (some sp) ++ ch c ++ cutS b (some (sp + 1)) none
theorem other_cps {b : Str} {sp : Int} {c : Nat} (h0 : 0 ≤ sp) (h1 : sp < b.length) : (other b sp c).cps.toList = b.cps.toList.take sp.toNat ++ c :: b.cps.toList.drop (sp.toNat + 1) := by
  unfold other
  rw [app_cps, app_cps, cut_to h0 (by omega), cut_from (by omega) (by omega)]
  have : (sp + 1).toNat = sp.toNat + 1 := by omega
  rw [this]
  simp
theorem other_good {b : Str} {sp : Int} {c : Nat} (h0 : 0 ≤ sp) (h1 : sp < b.length) (hb : Good b) (hc : Lo c) : Good (other b sp c) := by
  have hl : (other b sp c).length = b.length := by
    rw [str_len, other_cps h0 h1, List.length_append, List.length_take, List.length_cons, List.length_drop, ← str_len]
    omega
  refine ⟨by rw [hl]; exact hb.1, by rw [hl]; exact hb.2.1, fun x hx => ?_⟩
  rw [other_cps h0 h1] at hx
  rcases List.mem_append.mp hx with h | h
  · exact hb.2.2 x (List.mem_of_mem_take h)
  · rcases List.mem_cons.mp h with h | h
    · rw [h]; exact hc
    · exact hb.2.2 x (List.mem_of_mem_drop h)
theorem other_inj {b : Str} {sp : Int} {c d : Nat} (h0 : 0 ≤ sp) (h1 : sp < b.length) (h : other b sp c = other b sp d) : c = d := by
  have := congrArg (fun s => s.cps.toList) h
  simp only [other_cps h0 h1] at this
  have := List.append_cancel_left this
  exact (List.cons.inj this).1
theorem pace_inj {p a : Int} (hp : p = 1 ∨ p = 3 ∨ p = 5 ∨ p = 7 ∨ p = 11) {i j : Nat} (hi : i < 9) (hj : j < 9) (h : (a + p * i) % 26 = (a + p * j) % 26) : i = j := by
  rcases hp with rfl | rfl | rfl | rfl | rfl <;> omega
theorem labels_spec {n : Nat} {m : Mint} (h : MOk n m) (hn : n < 2 ^ 29) {k : Nat} (k1 : k ≤ 8) :
    Tk F_l_labels [mtB m, some (.fz (.int k))] (fun v e => ∃ (ws : List Str) (m' : Mint), v = .fr (.lst (ws.map D.str)) ∧ ws.length = k ∧ (∀ s ∈ ws, Good s) ∧ ws.Nodup ∧ MOk (n + 20) m' ∧ e = [mtB m', none]) NX := by
  unfold F_l_labels pg_l_labels
  have rk : rng1 [(k : Int)] = some ((List.range k).map fun i => D.int ((i : Nat) : Int)) := rng_of (by omega)
  simp! only [ixU, rng2, slD, inU, notInU]
  refine Tk.mono' (coin_spec h (by omega) (by omega) (by omega)) ?_; rintro _ _ ⟨way, m1, rfl, way0, way1, h1, rfl⟩
  simp! only [ixU, rng2, slD, inU, notInU]
  refine Tk.mono' (coin_spec h1 (by omega) (by omega) (by omega)) ?_; rintro _ _ ⟨at_, m2, rfl, at_0, at_1, h2, rfl⟩
  simp! only [ixU, rng2, slD, inU, notInU]
  have sm : ∀ x : Int, 0 ≤ x → x < 100 → small x = true := fun x a b => small_c ⟨by omega, by omega⟩
  refine Bif.mkd (fun hw => ?_) (fun hw => ?_)
  · simp! only [ixU, rng2, slD, inU, notInU, rk]
    refine Bif.mkd (fun hk => ?_) (fun hk => ?_)
    · simp! only [ixU, rng2, slD, inU, notInU, rk]
      refine ⟨by rw [List.length_map, List.length_range]; omega, Lr.mapT (List.range k) (fun i => D.str (Txt.mul (ch (97 + at_.toNat)) ((i : Int) + 1))) ?_ ?_⟩
      · intro i hi
        have hi := List.mem_range.mp hi
        simp! only [rng1, rng2, slD, inU, notInU, abc_at at_0 at_1]
        refine ⟨by omega, by omega, Nat.le_of_ble_eq_true rfl⟩
      · simp! only [ixU, rng1, rng2, slD, inU, notInU]
        refine ⟨(List.range k).map fun (i : Nat) => Txt.mul (ch (97 + at_.toNat)) ((i : Int) + 1), m2, by rw [List.map_map]; rfl, by simp, ?_, ?_, h2.up (by omega), rfl⟩
        · intro s hs
          obtain ⟨i, hi, rfl⟩ := List.mem_map.mp hs
          have hi := List.mem_range.mp hi
          have hl : (Txt.mul (ch (97 + at_.toNat)) ((i : Int) + 1)).length = i + 1 := by rw [str_len, rep_cps, List.length_replicate]
          refine ⟨by omega, by omega, fun c hc => ?_⟩
          rw [rep_cps] at hc
          rw [(List.mem_replicate.mp hc).2]
          exact ⟨by omega, by omega⟩
        · refine nodup_range_map fun i j _ _ hij => ?_
          have := congrArg (fun s => s.cps.toList.length) hij
          simp only [rep_cps, List.length_replicate] at this
          omega
    · omega
  · simp! only [ixU, rng2, slD, inU, notInU, rk]
    refine Bif.mkd (fun hw => ?_) (fun hw => ?_)
    · simp! only [ixU, rng2, slD, inU, notInU, rk]
      refine ⟨by rw [List.length_map, List.length_range]; omega, Lr.mapT (List.range k) (fun i => D.str (at12 ((at_ + 5 * (i : Int)) % 12))) ?_ ?_⟩
      · intro i hi
        have hi := List.mem_range.mp hi
        simp! only [rng1, rng2, slD, inU, notInU, ix12 (show 0 ≤ (at_ + 5 * (i : Int)) % 12 by omega) (by omega)]
        exact .inl (sm 5 (by decide) (by decide))
      · simp! only [ixU, rng1, rng2, slD, inU, notInU]
        refine ⟨(List.range k).map fun (i : Nat) => at12 ((at_ + 5 * (i : Int)) % 12), m2, by rw [List.map_map]; rfl, by simp, ?_, ?_, h2.up (by omega), rfl⟩
        · intro s hs
          obtain ⟨i, hi, rfl⟩ := List.mem_map.mp hs
          exact good12 _ at12_mem
        · refine nodup_range_map fun i j hi hj hij => ?_
          have := at12_inj (by omega) (by omega) (by omega) (by omega) hij
          omega
    · simp! only [ixU, rng2, slD, inU, notInU, rk]
      refine Tk.mono' (coin_spec h2 (by omega) (by omega) (by omega)) ?_; rintro _ _ ⟨r, m3, rfl, r0, r1, h3, rfl⟩
      simp! only [ixU, rng2, slD, inU, notInU, rng_of' (show 0 ≤ 1 + r by omega) (by omega)]
      refine ⟨by rw [List.length_map, List.length_range]; omega, letters_lr (n := n + 3) (by omega) (1 + r).toNat (by omega) h3 _ _ _ (fun m => [mtB m, some (.fz (.int k)), none, some (.fz (.str abc)), some (.fz (.int way)), some (.fz (.int at_)), none, none, none, none, none]) rfl ?_ ?_ ?_⟩
      · intro m
        simp! only [ixU, rng1, rng2, slD, inU, notInU]
      · intro n' m i hn' hm
        simp! only [ixU, rng1, rng2, slD, inU, notInU]
        refine Tk.mono' (coin_spec hm (by omega) (by omega) (by omega)) ?_; rintro _ _ ⟨c, m', rfl, c0, c1, hm', rfl⟩
        simp! only [rng1, rng2, slD, inU, notInU, abc_at c0 c1]
        exact ⟨_, m', rfl, ⟨by omega, by omega⟩, hm', rfl⟩
      · intro cs m4 hl hlo h4
        have gb : Good (Txt.join (⟨#[]⟩ : Str) (cs.map ch)) := by
          refine ⟨?_, ?_, ?_⟩
          · rw [str_len, join_chs]; omega
          · rw [str_len, join_chs]; omega
          · rw [join_chs]; exact hlo
        have sb : ((cs.map ch).map (·.length)).sum + (cs.map ch).length * (Str.ofString "").length ≤ 100000 := by
          have e1 : ((cs.map ch).map (·.length)).sum = cs.length := by
            clear hl hlo h4 gb
            induction cs with
            | nil => rfl
            | cons c cs ih => simp only [List.map_cons, List.sum_cons, ih]; rw [List.length_cons, Nat.add_comm]; rfl
          have e2 : (Str.ofString "").length = 0 := by decide +kernel
          rw [e1, e2]; omega
        have e0 : Str.ofString "" = (⟨#[]⟩ : Str) := by decide +kernel
        simp! only [ixU, rng1, rng2, slD, inU, notInU, strs_map, sb]
        rw [e0]
        generalize Txt.join (⟨#[]⟩ : Str) (cs.map ch) = base at gb
        obtain ⟨g1, g2, g3⟩ := id gb
        have hl2 : (base.length : Int) = base.length := rfl
        refine ⟨by omega, ?_⟩
        refine Tk.mono' (coin_spec h4 (by omega) (by omega) (by omega)) ?_; rintro _ _ ⟨sp, m5, rfl, sp0, sp1, h5, rfl⟩
        simp! only [ixU, rng1, rng2, slD, inU, notInU]
        refine Tk.mono' (coin_spec h5 (by omega) (by omega) (by omega)) ?_; rintro _ _ ⟨q, m6, rfl, q0, q1, h6, rfl⟩
        obtain ⟨p, hp1, hp⟩ := ix5 q0 q1
        simp! only [rng2, slD, inU, notInU, hp1, rk]
        refine ⟨by rw [List.length_map, List.length_range]; omega, Lr.mapT (List.range k) (fun i => D.str (other base sp (97 + ((at_ + p * (i : Int)) % 26).toNat))) ?_ ?_⟩
        · intro i hi
          have hi := List.mem_range.mp hi
          have c0 : 0 ≤ (at_ + p * (i : Int)) % 26 := by omega
          have c1 : (at_ + p * (i : Int)) % 26 < 26 := by omega
          have l1 : (cutS base none (some sp)).length ≤ 8 := by
            rw [str_len, cut_to sp0 (by omega), List.length_take, ← str_len]; omega
          have l2 : (cutS base (some (sp + 1)) none).length ≤ 8 := by
            rw [str_len, cut_from (by omega) (by omega), List.length_drop, ← str_len]; omega
          have l3 : (cutS base none (some sp) ++ ch (97 + ((at_ + p * (i : Int)) % 26).toNat)).length ≤ 9 := by
            rw [str_len, app_cps, List.length_append, ← str_len]
            have : (ch (97 + ((at_ + p * (i : Int)) % 26).toNat)).cps.toList.length = 1 := rfl
            omega
          simp! only [rng1, rng2, slD, inU, notInU, abc_at c0 c1]
          have hp2 : small p = true := by rcases hp with rfl | rfl | rfl | rfl | rfl <;> exact small_c
          refine ⟨by omega, .inl hp2, ?_, by omega, ?_⟩
          · have : (ch (97 + ((at_ + p * (i : Int)) % 26).toNat)).length = 1 := rfl
            omega
          · refine ⟨by omega, rfl⟩
        · simp! only [ixU, rng1, rng2, slD, inU, notInU]
          refine ⟨(List.range k).map fun (i : Nat) => other base sp (97 + ((at_ + p * (i : Int)) % 26).toNat), m6, by rw [List.map_map]; rfl, by simp, ?_, ?_, h6.up (by omega), rfl⟩
          · intro s hs
            obtain ⟨i, hi, rfl⟩ := List.mem_map.mp hs
            exact other_good sp0 (by omega) gb ⟨by omega, by omega⟩
          · refine nodup_range_map fun i j hi hj hij => ?_
            have := other_inj sp0 (by omega) hij
            exact pace_inj (a := at_) hp (by omega) (by omega) (by omega)
theorem labels_int {n : Nat} {m : Mint} (h : MOk n m) (hn : n < 2 ^ 29) {k : Int} (k0 : 0 ≤ k) (k1 : k ≤ 8) :
    Tk F_l_labels [mtB m, some (.fz (.int k))] (fun v e => ∃ (ws : List Str) (m' : Mint), v = .fr (.lst (ws.map D.str)) ∧ ws.length = k.toNat ∧ (∀ s ∈ ws, Good s) ∧ ws.Nodup ∧ MOk (n + 20) m' ∧ e = [mtB m', none]) NX := by
  have h1 := labels_spec h hn (k := k.toNat) (by omega)
  have e : ((k.toNat : Nat) : Int) = k := by omega
  rw [e] at h1
  exact h1
end LW
namespace LW
open PySem PySem.Spec PyProof.Rows L2 VE
local macro_rules | `(tactic| simp! only [$as,*]) => `(tactic| simp -dsimp only [Tk_bind, Tk_pure, Tk_none, Tk_xc, Tk_xv, Tk_xf, Tk_xm, Tk_frz, Tk_x2, Tk_x1, Tk_bt, Tk_bAnd, Tk_bOr, Tk_bNot, Tk_xAnd, Tk_xOr, Tk_xNot, Tk_xIf, Tk_aNil, Tk_aCons, Tk_xTup, Tk_xLst, Tk_xB, Tk_xSet, Tk_oNone, Tk_oSome, Tk_xSl, Tk_xChain, Ts_sNil, Ts_sBrk, Ts_sCnt, Ts_sSeq, Ts_sDrop, Ts_sRet, Ts_sRetN, Ts_sIf, Ts_sSet, Ts_sAsg, Ts_sPar, Ts_sPar3, Ts_sFor, Ts_sWhile, Ts_sRaise, Sq, Tk_itN, itnO_own, Ts_sForO, Tk_itD, Tk_itR1, Tk_itR2, Tk_itE, Tk_itZ, Tk_callE, Tk_xdef, Tk_xNam, Tk_xMk, Tk_aRecv, Tk_xMeth, Tk_xProp, Tk_xFld, Tk_two, Tk_lenO, Tk_xOpO, Tk_xIsI, Tk_xDn, Tk_xDisp1, Tk_xJoin, Tk_xEv, Tk_xIsE, Tk_bYes, Tk_xMut, Ts_stU, Ts_sStU, Ts_sFldE, Ts_sTry, Ts_sSetE, Tk_semF, Tk_xLc, Bif_t, Bif_f, So_some, So_none, So_map, So_bind, So_ite, So_ite', rdv, xfk, xmk, frv, bov, nfr, inv1, fzo, itv, enuv, zipv, ncal, xcal, lastI, nmk, xmkx, fldv, natv, one1, Stu, owE, fldk, Tryk, endk, turn, Tg, endO, mapO, restO, ownB, itemsO_t, itemsO_f, deref, derefs, fzs, stow_fz, stow_fr, ioo_none, ioo_fz, ioo_own, ioo_io, argsE, backE, bors, ioB, Bnd.d, Bnd.put, Bnd.ow, putE, ownL, ownD, wipeE, restE, okV, gN, gsN, gsC, gT, flatD, noBox, open_, opens, openV, pick, isIns, intsV, Tg_gN, Int.cast_ofNat_Int, Int.natCast_zero, Int.natCast_one, eqB_int, eqB_str, eqB_bl, joinD, opens_str, opens_str', nobox_str, nobox_str', opens_int, opens_int', nobox_int, nobox_int', opens_bl, opens_bl', nobox_bl, nobox_bl', addD, subD, mulD, mulU, divD, modD, powD, andD, cmpD, ltD, gtD, leD, geD, eqD, neD, isD, isntD, VE.isNon, ixD, lenU, lenD, VE.intD, absD, max2D, min2D, listD, tupleD, boolsD, anyD, allD, negD, List.getElem?_cons_zero, List.getElem?_cons_succ, List.getElem?_nil, List.length_cons, List.length_nil, List.set_cons_zero, List.set_cons_succ, List.set_nil, List.cons_append, List.nil_append, List.append_nil, List.replicate_succ, List.replicate_zero, List.all_cons, List.all_nil, List.map_cons, List.map_nil, List.any_cons, List.any_nil, List.getLast?_cons_cons, List.getLast?_singleton, List.dropLast_cons₂, List.dropLast_singleton, List.getD_cons_zero, List.getD_cons_succ, List.getD_nil, List.nodup_nil, List.nodup_cons, List.not_mem_nil, List.mem_cons, List.mem_singleton, Option.bind_some, Option.bind_none, Option.map_some, Option.map_none, id, Option.isSome_some, Option.isSome_none, and_true, true_and, and_self, and_false, false_and, or_true, true_or, or_false, false_or, not_true_eq_false, not_false_eq_true, if_true, if_false, ite_true, ite_false, reduceCtorEq, Bool.not_true, Bool.not_false, Bool.and_true, Bool.true_and, Bool.and_false, Bool.false_and, Bool.or_true, Bool.true_or, decide_true, decide_false, Bool.and_self, Bool.or_self, Bool.or_false, Bool.false_or, Bool.not_not, eq_self, forall_const, implies_true, Nat.reduceAdd, Nat.reduceSub, Nat.reduceMul, Nat.reduceLT, Nat.reduceLeDiff, Nat.reduceEqDiff, Nat.reduceBEq, Nat.reduceSucc, Int.reduceAdd, Int.reduceSub, Int.reduceMul, Int.reduceLT, Int.reduceLE, Int.reduceEq, Int.reduceNeg, Int.reduceToNat, Int.reduceNe, Nat.reduceGT, Int.reduceDiv, Int.reduceMod, Nat.zero_add, Nat.reduceDiv, Nat.reduceMod, $as,*])
theorem bools_map {α : Type} (f : α → Bool) : ∀ l : List α, boolsD (l.map fun x => D.bl (f x)) = some (l.map f)
  | [] => rfl
  | x :: l => by simp only [List.map_cons, boolsD, bools_map f l, Option.map_some]
theorem abc_has {c : Nat} : c ∈ abc.cps.toList ↔ Lo c := by
  have e : abc.cps.toList = (List.range 26).map (97 + ·) := by decide +kernel
  rw [e, List.mem_map]
  constructor
  · rintro ⟨i, hi, rfl⟩
    have := List.mem_range.mp hi
    exact ⟨by omega, by omega⟩
  · rintro ⟨h1, h2⟩
    exact ⟨c - 97, List.mem_range.mpr (by omega), by omega⟩
theorem memB_ch {c : Nat} {y : Str} : VE.memB (.str (ch c)) (.str y) = some (decide (c ∈ y.cps.toList)) := rfl
theorem is_name_spec {s : Str} (h : s.length ≤ 100000) : Tk F_is_name [some (.fz (.str s))] (fun v e => ∃ b, v = .fz (.bl b) ∧ (b = true ↔ Good s) ∧ e = [none]) NX := by
  unfold F_is_name pg_is_name
  simp! only [ixU, rng1, rng2, slD, inU, notInU, h]
  refine Bif.mkd (fun h1 => ?_) (fun h1 => ?_)
  · simp! only [ixU, rng1, rng2, slD, inU, notInU, h]
    refine Bif.mkd (fun h2 => ?_) (fun h2 => ?_)
    · simp! only [ixU, rng1, rng2, slD, inU, notInU]
      refine ⟨by rw [List.length_map]; rw [str_len] at h2; omega, Lr.mapT s.cps.toList (fun c => D.bl (decide (c ∈ abc.cps.toList))) ?_ ?_⟩
      · intro c hc
        simp! only [ixU, rng1, rng2, slD, inU, notInU, inD, memB_ch]
      · simp! only [ixU, rng1, rng2, slD, inU, notInU, bools_map]
        refine ⟨_, rfl, ?_⟩
        rw [List.all_eq_true]
        constructor
        · intro h3
          refine ⟨by omega, by omega, fun c hc => ?_⟩
          have := h3 _ (List.mem_map_of_mem (f := fun x => decide (x ∈ abc.cps.toList)) hc)
          exact abc_has.mp (of_decide_eq_true this)
        · rintro ⟨_, _, h3⟩ b hb
          obtain ⟨c, hc, rfl⟩ := List.mem_map.mp hb
          exact decide_eq_true (abc_has.mpr (h3 c hc))
    · simp! only [ixU, rng1, rng2, slD, inU, notInU]
      exact ⟨_, rfl, by simp; intro h3; exact h2 (by have := h3.2.1; omega)⟩
  · simp! only [ixU, rng1, rng2, slD, inU, notInU]
    exact ⟨_, rfl, by simp; intro h3; exact h1 (by have := h3.1; omega)⟩
theorem check_name_ok {s : Str} (h : Good s) : Tk F_check_name [some (.fz (.str s))] (fun v e => v = .fz .non ∧ e = [none]) NX := by
  unfold F_check_name pg_check_name
  simp! only [ixU, rng1, rng2, slD, inU, notInU]
  refine (is_name_spec (by have := h.2.1; omega)).mono' ?_
  rintro _ _ ⟨b, rfl, hb, rfl⟩
  obtain rfl := hb.mpr h
  simp! only [ixU, rng1, rng2, slD, inU, notInU]
theorem check_name_bad {s : Str} (h : ¬Good s) (hl : s.length ≤ 100000) : Tk F_check_name [some (.fz (.str s))] (fun _ _ => False) (fun c d e => c = "InvalidName" ∧ d = .str s ∧ e = [none]) := by
  unfold F_check_name pg_check_name
  simp! only [ixU, rng1, rng2, slD, inU, notInU]
  refine (is_name_spec hl).mono' ?_
  rintro _ _ ⟨b, rfl, hb, rfl⟩
  have : b = false := by cases b with
    | false => rfl
    | true => exact absurd (hb.mp rfl) h
  subst this
  simp! only [ixU, rng1, rng2, slD, inU, notInU]
end LW
namespace LW
open PySem PySem.Spec PyProof.Rows L2 VE SV
local macro_rules | `(tactic| simp! only [$as,*]) => `(tactic| simp -dsimp only [Tk_bind, Tk_pure, Tk_none, Tk_xc, Tk_xv, Tk_xf, Tk_xm, Tk_frz, Tk_x2, Tk_x1, Tk_bt, Tk_bAnd, Tk_bOr, Tk_bNot, Tk_xAnd, Tk_xOr, Tk_xNot, Tk_xIf, Tk_aNil, Tk_aCons, Tk_xTup, Tk_xLst, Tk_xB, Tk_xSet, Tk_oNone, Tk_oSome, Tk_xSl, Tk_xChain, Ts_sNil, Ts_sBrk, Ts_sCnt, Ts_sSeq, Ts_sDrop, Ts_sRet, Ts_sRetN, Ts_sIf, Ts_sSet, Ts_sAsg, Ts_sPar, Ts_sPar3, Ts_sFor, Ts_sWhile, Ts_sRaise, Sq, Tk_itN, itnO_own, Ts_sForO, Tk_itD, Tk_itR1, Tk_itR2, Tk_itE, Tk_itZ, Tk_callE, Tk_xdef, Tk_xNam, Tk_xMk, Tk_aRecv, Tk_xMeth, Tk_xProp, Tk_xFld, Tk_two, Tk_lenO, Tk_xOpO, Tk_xIsI, Tk_xDn, Tk_xDisp1, Tk_xJoin, Tk_xEv, Tk_xIsE, Tk_bYes, Tk_xMut, Ts_stU, Ts_sStU, Ts_sFldE, Ts_sTry, Ts_sSetE, Tk_semF, Tk_xLc, Bif_t, Bif_f, So_some, So_none, So_map, So_bind, So_ite, So_ite', rdv, xfk, xmk, frv, bov, nfr, inv1, fzo, itv, enuv, zipv, ncal, xcal, lastI, nmk, xmkx, fldv, natv, one1, Stu, owE, fldk, Tryk, endk, turn, Tg, endO, mapO, restO, ownB, itemsO_t, itemsO_f, deref, derefs, fzs, stow_fz, stow_fr, ioo_none, ioo_fz, ioo_own, ioo_io, argsE, backE, bors, ioB, Bnd.d, Bnd.put, Bnd.ow, putE, ownL, ownD, wipeE, restE, okV, gN, gsN, gsC, gT, flatD, noBox, open_, opens, openV, pick, isIns, intsV, Tg_gN, Int.cast_ofNat_Int, Int.natCast_zero, Int.natCast_one, eqB_int, eqB_str, eqB_bl, joinD, opens_str, opens_str', nobox_str, nobox_str', opens_int, opens_int', nobox_int, nobox_int', opens_bl, opens_bl', nobox_bl, nobox_bl', addD, subD, mulD, mulU, divD, modD, powD, andD, cmpD, ltD, gtD, leD, geD, eqD, neD, isD, isntD, VE.isNon, ixD, lenU, lenD, VE.intD, absD, max2D, min2D, listD, tupleD, boolsD, anyD, allD, negD, List.getElem?_cons_zero, List.getElem?_cons_succ, List.getElem?_nil, List.length_cons, List.length_nil, List.set_cons_zero, List.set_cons_succ, List.set_nil, List.cons_append, List.nil_append, List.append_nil, List.replicate_succ, List.replicate_zero, List.all_cons, List.all_nil, List.map_cons, List.map_nil, List.any_cons, List.any_nil, List.getLast?_cons_cons, List.getLast?_singleton, List.dropLast_cons₂, List.dropLast_singleton, List.getD_cons_zero, List.getD_cons_succ, List.getD_nil, List.nodup_nil, List.nodup_cons, List.not_mem_nil, List.mem_cons, List.mem_singleton, Option.bind_some, Option.bind_none, Option.map_some, Option.map_none, id, Option.isSome_some, Option.isSome_none, and_true, true_and, and_self, and_false, false_and, or_true, true_or, or_false, false_or, not_true_eq_false, not_false_eq_true, if_true, if_false, ite_true, ite_false, reduceCtorEq, Bool.not_true, Bool.not_false, Bool.and_true, Bool.true_and, Bool.and_false, Bool.false_and, Bool.or_true, Bool.true_or, decide_true, decide_false, Bool.and_self, Bool.or_self, Bool.or_false, Bool.false_or, Bool.not_not, eq_self, forall_const, implies_true, Nat.reduceAdd, Nat.reduceSub, Nat.reduceMul, Nat.reduceLT, Nat.reduceLeDiff, Nat.reduceEqDiff, Nat.reduceBEq, Nat.reduceSucc, Int.reduceAdd, Int.reduceSub, Int.reduceMul, Int.reduceLT, Int.reduceLE, Int.reduceEq, Int.reduceNeg, Int.reduceToNat, Int.reduceNe, Nat.reduceGT, Int.reduceDiv, Int.reduceMod, Nat.zero_add, Nat.reduceDiv, Nat.reduceMod, $as,*])
theorem wee_nat {n : Nat} (h : n < 2 ^ 62) : wee (n : Int) = true := by unfold wee; exact decide_eq_true ⟨by omega, by omega⟩
abbrev plcs (kl : List (Nat × List Zs)) : List ((Nat × List Zs) × D) := kl.zipIdx.map fun p => (p.1, D.int ((p.2 : Nat) : Int))
theorem plcs_find {kl : List (Nat × List Zs)} (nd : kl.Nodup) {k : Nat × List Zs} {i : Nat} (h : kl[i]? = some k) : ((plcs kl).find? fun p => decide (p.1 = k)).map (·.2) = some (.int ((i : Nat) : Int)) := by
  have hm : (k, D.int ((i : Nat) : Int)) ∈ plcs kl := by
    refine List.mem_map.mpr ⟨(k, i), ?_, rfl⟩
    rw [List.mem_zipIdx_iff_getElem?]
    exact h
  cases hf : (plcs kl).find? fun p => decide (p.1 = k) with
  | none =>
    have := List.find?_eq_none.mp hf _ hm
    simp at this
  | some p =>
    have h1 := List.find?_some hf
    have h2 := List.mem_of_find?_eq_some hf
    obtain ⟨⟨k', j⟩, h3, rfl⟩ := List.mem_map.mp h2
    rw [List.mem_zipIdx_iff_getElem?] at h3
    have e : k' = k := of_decide_eq_true h1
    subst e
    have := idx_inj nd h h3
    simp at this
    subst this
    rfl
theorem plcs_none {kl : List (Nat × List Zs)} {k : Nat × List Zs} (h : k ∉ kl) : ((plcs kl).find? fun p => decide (p.1 = k)) = none := by
  rw [List.find?_eq_none]
  intro p hp
  obtain ⟨⟨k', j⟩, h3, rfl⟩ := List.mem_map.mp hp
  rw [List.mem_zipIdx_iff_getElem?] at h3
  simp only [decide_eq_true_eq]
  intro e
  exact h (e ▸ List.mem_of_getElem? h3)
theorem plcs_snoc (kl : List (Nat × List Zs)) (k : Nat × List Zs) : plcs (kl ++ [k]) = plcs kl ++ [(k, .int ((kl.length : Nat) : Int))] := by
  simp [plcs, List.zipIdx_append]
theorem pl_notin {kl : List (Nat × List Zs)} (nd : kl.Nodup) {k : Nat × List Zs} {i : Nat} (h : kl[i]? = some k) : notInU (kdD k) (.dct 2 (dcD kdD (plcs kl))) = some (.fz (.bl false)) := by
  show (dKey 2 (kdD k)).map (fun n => Val.fz (.bl (!(dGet (dcD kdD (plcs kl)) n).isSome))) = _
  rw [dKey_kd, Option.map_some, dGet_enc nk_kd kdN_inj, plcs_find nd h]; rfl
theorem pl_ix {kl : List (Nat × List Zs)} (nd : kl.Nodup) {k : Nat × List Zs} {i : Nat} (h : kl[i]? = some k) : ixU (.dct 2 (dcD kdD (plcs kl))) (kdD k) = some (.fz (.int ((i : Nat) : Int))) := by
  show (dKey 2 (kdD k)).bind (fun n => (dGet (dcD kdD (plcs kl)) n).map Val.fz) = _
  rw [dKey_kd, Option.bind_some, dGet_enc nk_kd kdN_inj, plcs_find nd h]; rfl
theorem pl_new {kl : List (Nat × List Zs)} {k : Nat × List Zs} (h : k ∉ kl) : notInU (kdD k) (.dct 2 (dcD kdD (plcs kl))) = some (.fz (.bl true)) := by
  show (dKey 2 (kdD k)).map (fun n => Val.fz (.bl (!(dGet (dcD kdD (plcs kl)) n).isSome))) = _
  rw [dKey_kd, Option.map_some, dGet_enc nk_kd kdN_inj, plcs_none h]; rfl
theorem pl_put {kl : List (Nat × List Zs)} {k : Nat × List Zs} (h : k ∉ kl) : dPut (dcD kdD (plcs kl)) (kdN k) (kdD k) (.int ((kl.length : Nat) : Int)) = dcD kdD (plcs (kl ++ [k])) := by
  rw [dPut_new nk_kd kdN_inj, plcs_snoc]
  intro p hp e
  obtain ⟨⟨k', j⟩, h3, rfl⟩ := List.mem_map.mp hp
  rw [List.mem_zipIdx_iff_getElem?] at h3
  exact h (e ▸ List.mem_of_getElem? h3)
theorem plcs_len (kl : List (Nat × List Zs)) : (dcD kdD (plcs kl)).length = kl.length := by simp [plcs]
theorem natsD_snoc {ls : List Nat} {i : Nat} : natsD (ls ++ [i]) = .lst ((ls.map fun (i : Nat) => D.int (i : Int)) ++ [.int (i : Int)]) := by simp
theorem kat_snoc {ls : List Nat} {x : Nat} {a : Nat} : kat (ls ++ [x]) a = if a < ls.length then kat ls a else if a = ls.length then x else 0 := by
  unfold kat
  simp only [List.getD_eq_getElem?_getD]
  by_cases h : a < ls.length
  · rw [if_pos h, List.getElem?_append_left h]
  · rw [if_neg h, List.getElem?_append_right (by omega)]
    by_cases e : a = ls.length
    · rw [if_pos e, e]; simp
    · rw [if_neg e, List.getElem?_eq_none (by simp; omega)]; rfl
structure Prt (P : Plan) (ks : List Nat) (kl : List (Nat × List Zs)) (ls : List Nat) (n : Nat) : Prop where
  len : ls.length = n
  nd : kl.Nodup
  at_ : ∀ a, a < n → kl[kat ls a]? = some (kd P ks a)
  from_ : ∀ k ∈ kl, ∃ a, a < n ∧ k = kd P ks a
theorem Prt.more {P : Plan} {ks : List Nat} {kl : List (Nat × List Zs)} {n : Nat} (h : ∀ k ∈ kl, ∃ a, a < n ∧ k = kd P ks a) (nd : kl.Nodup) : kl.length ≤ n := by
  have := (perm_of_subset (r := kl) (l := (List.range n).map (kd P ks)) nd fun k hk => by
    obtain ⟨a, ha, e⟩ := h k hk
    exact List.mem_map.mpr ⟨a, List.mem_range.mpr ha, e.symm⟩).1
  simpa using this
theorem Prt.old {P : Plan} {ks : List Nat} {kl : List (Nat × List Zs)} {ls : List Nat} {n i : Nat} (h : Prt P ks kl ls n) (hi : kl[i]? = some (kd P ks n)) : Prt P ks kl (ls ++ [i]) (n + 1) := by
  refine ⟨by simp [h.len], h.nd, fun a ha => ?_, fun k hk => ?_⟩
  · rw [kat_snoc]
    by_cases z : a < ls.length
    · rw [if_pos z]; exact h.at_ a (by rw [← h.len]; exact z)
    · have e : a = ls.length := by have := h.len; omega
      rw [if_neg z, if_pos e, e, h.len]; exact hi
  · obtain ⟨a, ha, e⟩ := h.from_ k hk
    exact ⟨a, by omega, e⟩
theorem Prt.new {P : Plan} {ks : List Nat} {kl : List (Nat × List Zs)} {ls : List Nat} {n : Nat} (h : Prt P ks kl ls n) (hi : kd P ks n ∉ kl) : Prt P ks (kl ++ [kd P ks n]) (ls ++ [kl.length]) (n + 1) := by
  refine ⟨by simp [h.len], ?_, fun a ha => ?_, fun k hk => ?_⟩
  · rw [List.nodup_append]
    refine ⟨h.nd, by simp, fun a ha b hb => ?_⟩
    rw [List.mem_singleton.mp hb]
    intro e; exact hi (e ▸ ha)
  · rw [kat_snoc]
    by_cases z : a < ls.length
    · rw [if_pos z]
      have := h.at_ a (by rw [← h.len]; exact z)
      rw [List.getElem?_append_left (List.getElem?_eq_some_iff.mp this).1]
      exact this
    · have e : a = ls.length := by have := h.len; omega
      rw [if_neg z, if_pos e, e, h.len]; simp
  · rcases List.mem_append.mp hk with hk | hk
    · obtain ⟨a, ha, e⟩ := h.from_ k hk
      exact ⟨a, by omega, e⟩
    · exact ⟨n, by omega, List.mem_singleton.mp hk⟩
theorem kinds_spec {P : Plan} (W : Wf P) (h0 : P ≠ []) (hn : P.length ≤ 60) (hr : ∀ a, (P.getD a []).length ≤ 1000) :
    Tk F_room_kinds [some (.fz (planD P))] (fun v e => ∃ ks : List Nat, v = .fz (natsD ks) ∧ ks.length = P.length ∧ (∀ a b, a < P.length → b < P.length → (kat ks a = kat ks b ↔ tr P a = tr P b)) ∧ e = [none]) NX := by
  unfold F_room_kinds pg_room_kinds
  have rk : rng1 [(((P.map roomD).length : Nat) : Int)] = some ((List.range P.length).map fun i => D.int ((i : Nat) : Int)) := by
    rw [List.length_map]; exact rng_of (by omega)
  simp! only [ixU, rng1, rng2, slD, inU, notInU]
  refine ⟨by rw [List.length_map]; omega, Lr.mapT P (fun _ => .int 0) ?_ ?_⟩
  · intro r hr
    simp! only [ixU, rng1, rng2, slD, inU, notInU]
  · simp! only [ixU, rng1, rng2, slD, inU, notInU]
    refine Wh.inv (m := P.length) (fun m e => ∃ (ks : List Nat) (f mm : Nat) (kb : Bnd) (o4 o5 o6 o8 o9 : Option Bnd), (kb = .fz (natsD ks) ∨ kb = .own (natsD ks)) ∧ KI P ks f ∧ f ≤ P.length ∧ (mm = f → Fine P ks ∧ kb = .fz (natsD ks)) ∧ (mm ≠ f → m + f = P.length + 1) ∧
      ioo (some o4) = false ∧ ioo (some o5) = false ∧ ioo (some o6) = false ∧ ioo (some o8) = false ∧ ioo (some o9) = false ∧
      e = [some (.fz (planD P)), some kb, some (.fz (.int ((mm : Nat) : Int))), some (.fz (.int ((f : Nat) : Int))), o4, o5, o6, none, o8, o9, none, none, none]) ?_ (by omega) ?_
    · refine ⟨List.replicate P.length 0, 1, 0, _, none, none, none, none, none, .inr rfl, ki_zero h0, List.length_pos_iff.mpr h0, fun z => by omega, fun _ => rfl, rfl, rfl, rfl, rfl, rfl, ?_⟩
      simp [List.map_const']
    · rintro m e ⟨ks, f, mm, kb, o4, o5, o6, o8, o9, hkb, hk, hf, hfine, hm, i4, i5, i6, i8, i9, rfl⟩
      simp! only [ixU, rng1, rng2, slD, inU, notInU]
      by_cases hz : mm = f
      · obtain ⟨hfi, rfl⟩ := hfine hz
        subst hz
        simp! only [ixU, rng1, rng2, slD, inU, notInU]
        refine ⟨ks, rfl, hk.len, fun a b ha hb => ⟨fun h => hfi a b ha hb h, fun h => hk.co a b ha hb h⟩⟩
      · have hm := hm hz
        have hz' : ¬ ((mm : Int) = (f : Int)) := by omega
        simp! only [ixU, rng2, slD, inU, notInU, hz', i4, i5, rk]
        refine Fr.inv (List.range P.length) (fun pre e => ∃ (kl : List (Nat × List Zs)) (ls : List Nat) (o6 o8 o9 : Option Bnd), Prt P ks kl ls pre.length ∧ ioo (some o6) = false ∧ ioo (some o8) = false ∧ ioo (some o9) = false ∧
          e = [some (.fz (planD P)), some kb, some (.fz (.int ((mm : Nat) : Int))), some (.fz (.int ((f : Nat) : Int))), some (.own (.dct 2 (dcD kdD (plcs kl)))), some (.own (natsD ls)), o6, none, o8, o9, none, none, none])
          ⟨[], [], o6, o8, o9, ⟨rfl, List.nodup_nil, fun a ha => absurd ha (Nat.not_lt_zero _), fun k hk => by cases hk⟩, i6, i8, i9, rfl⟩ ?_ ?_
        · rintro pre x post e hx ⟨kl, ls, o6, o8, o9, hp, i6, i8, i9, rfl⟩
          have hxl : x = pre.length := by
            have h1 := congrArg (fun l => l[pre.length]?) hx
            simp at h1
            have h2 : pre.length < P.length := by
              have := congrArg List.length hx
              simp at this
              omega
            rw [List.getElem?_range h2] at h1
            simpa using h1.symm
          have hxn : x < P.length := by
            have : x ∈ List.range P.length := by rw [hx]; simp
            exact List.mem_range.mp this
          have hpa := plan_at (P := P) hxn
          rcases hkb with rfl | rfl
          · simp! only [rng1, rng2, slD, inU, notInU, i6, hpa]
            have hkx : x < ks.length := by rw [hk.len]; exact hxn
            have hkd : dKey 2 (kdD (kd P ks x)) = some (kdN (kd P ks x)) := dKey_kd _
            have e8 : (P.getD x []).map (fun s => spD { s with to := kat ks s.to }) = (told P ks x).map spD := by unfold told; rw [List.map_map]; rfl
            refine ⟨by rw [List.length_map]; have := hr x; omega, Lr.mapT (P.getD x []) (fun s => spD { s with to := kat ks s.to }) ?_ ?_⟩
            · intro s hs
              have hst : s.to < ks.length := by rw [hk.len]; exact (W.room x).2 s hs
              simp! only [rng1, rng2, slD, inU, notInU, i6, nats_at hst]
            · rw [e8]
              simp! only [rng1, rng2, slD, inU, i6, i8, i9, nats_at hkx, sorted_sp, nobox_sp, opens_sp]
              have hkl : kl.length ≤ pre.length := Prt.more hp.from_ hp.nd
              have hll : ls.length = pre.length := hp.len
              by_cases hin : kd P ks x ∈ kl
              · obtain ⟨i, hi1, hi2⟩ := List.getElem_of_mem hin
                have hi : kl[i]? = some (kd P ks x) := by rw [List.getElem?_eq_getElem hi1, hi2]
                have q1 : notInU (D.tup [D.int ((kat ks x : Nat) : Int), D.tup ((srt (told P ks x)).map spD)]) (.dct 2 (dcD kdD (plcs kl))) = some (.fz (.bl false)) := pl_notin hp.nd hi
                have q2 : ixU (.dct 2 (dcD kdD (plcs kl))) (D.tup [D.int ((kat ks x : Nat) : Int), D.tup ((srt (told P ks x)).map spD)]) = some (.fz (.int ((i : Nat) : Int))) := pl_ix hp.nd hi
                simp! only [rng1, rng2, slD, inU, q1, q2, gApp, nobox_nat]
                refine ⟨by rw [List.length_map]; omega, kl, ls ++ [i], some (.fz (.int (x : Int))), some (.own (.lst ((told P ks x).map spD))), some (.fz (.tup [.int ((kat ks x : Nat) : Int), .tup ((srt (told P ks x)).map spD)])), ?_, rfl, rfl, rfl, by rw [natsD_snoc]⟩
                rw [List.length_append]
                have hi' : kl[i]? = some (kd P ks pre.length) := by rw [← hxl]; exact hi
                exact hp.old hi'
              · have q1 : notInU (D.tup [D.int ((kat ks x : Nat) : Int), D.tup ((srt (told P ks x)).map spD)]) (.dct 2 (dcD kdD (plcs kl))) = some (.fz (.bl true)) := pl_new hin
                have q0 : dKey 2 (D.tup [D.int ((kat ks x : Nat) : Int), D.tup ((srt (told P ks x)).map spD)]) = some (kdN (kd P ks x)) := hkd
                have q3 : dPut (dcD kdD (plcs kl)) (kdN (kd P ks x)) (D.tup [D.int ((kat ks x : Nat) : Int), D.tup ((srt (told P ks x)).map spD)]) (.int ((kl.length : Nat) : Int)) = dcD kdD (plcs (kl ++ [kd P ks x])) := pl_put hin
                have hin' : kd P ks pre.length ∉ kl := by rw [← hxl]; exact hin
                have hp2 := hp.new hin'
                have nd2 : (kl ++ [kd P ks x]).Nodup := by rw [hxl]; exact hp2.nd
                have q2 : ixU (.dct 2 (dcD kdD (plcs (kl ++ [kd P ks x])))) (D.tup [D.int ((kat ks x : Nat) : Int), D.tup ((srt (told P ks x)).map spD)]) = some (.fz (.int ((kl.length : Nat) : Int))) := pl_ix nd2 (by rw [List.getElem?_append_right (Nat.le_refl _), Nat.sub_self]; rfl)
                have q4 : (dcD kdD (plcs kl)).length = kl.length := plcs_len kl
                simp! only [rng1, rng2, slD, inU, q1, q0, q2, q3, q4, gApp, nobox_nat]
                refine ⟨by omega, by rw [List.length_map]; omega, kl ++ [kd P ks x], ls ++ [kl.length], some (.fz (.int (x : Int))), some (.own (.lst ((told P ks x).map spD))), some (.fz (.tup [.int ((kat ks x : Nat) : Int), .tup ((srt (told P ks x)).map spD)])), ?_, rfl, rfl, rfl, by rw [natsD_snoc]⟩
                rw [List.length_append, hxl]
                exact hp2
          · simp! only [rng1, rng2, slD, inU, notInU, i6, hpa]
            have hkx : x < ks.length := by rw [hk.len]; exact hxn
            have hkd : dKey 2 (kdD (kd P ks x)) = some (kdN (kd P ks x)) := dKey_kd _
            have e8 : (P.getD x []).map (fun s => spD { s with to := kat ks s.to }) = (told P ks x).map spD := by unfold told; rw [List.map_map]; rfl
            refine ⟨by rw [List.length_map]; have := hr x; omega, Lr.mapT (P.getD x []) (fun s => spD { s with to := kat ks s.to }) ?_ ?_⟩
            · intro s hs
              have hst : s.to < ks.length := by rw [hk.len]; exact (W.room x).2 s hs
              simp! only [rng1, rng2, slD, inU, notInU, i6, nats_at hst]
            · rw [e8]
              simp! only [rng1, rng2, slD, inU, i6, i8, i9, nats_at hkx, sorted_sp, nobox_sp, opens_sp]
              have hkl : kl.length ≤ pre.length := Prt.more hp.from_ hp.nd
              have hll : ls.length = pre.length := hp.len
              by_cases hin : kd P ks x ∈ kl
              · obtain ⟨i, hi1, hi2⟩ := List.getElem_of_mem hin
                have hi : kl[i]? = some (kd P ks x) := by rw [List.getElem?_eq_getElem hi1, hi2]
                have q1 : notInU (D.tup [D.int ((kat ks x : Nat) : Int), D.tup ((srt (told P ks x)).map spD)]) (.dct 2 (dcD kdD (plcs kl))) = some (.fz (.bl false)) := pl_notin hp.nd hi
                have q2 : ixU (.dct 2 (dcD kdD (plcs kl))) (D.tup [D.int ((kat ks x : Nat) : Int), D.tup ((srt (told P ks x)).map spD)]) = some (.fz (.int ((i : Nat) : Int))) := pl_ix hp.nd hi
                simp! only [rng1, rng2, slD, inU, q1, q2, gApp, nobox_nat]
                refine ⟨by rw [List.length_map]; omega, kl, ls ++ [i], some (.fz (.int (x : Int))), some (.own (.lst ((told P ks x).map spD))), some (.fz (.tup [.int ((kat ks x : Nat) : Int), .tup ((srt (told P ks x)).map spD)])), ?_, rfl, rfl, rfl, by rw [natsD_snoc]⟩
                rw [List.length_append]
                have hi' : kl[i]? = some (kd P ks pre.length) := by rw [← hxl]; exact hi
                exact hp.old hi'
              · have q1 : notInU (D.tup [D.int ((kat ks x : Nat) : Int), D.tup ((srt (told P ks x)).map spD)]) (.dct 2 (dcD kdD (plcs kl))) = some (.fz (.bl true)) := pl_new hin
                have q0 : dKey 2 (D.tup [D.int ((kat ks x : Nat) : Int), D.tup ((srt (told P ks x)).map spD)]) = some (kdN (kd P ks x)) := hkd
                have q3 : dPut (dcD kdD (plcs kl)) (kdN (kd P ks x)) (D.tup [D.int ((kat ks x : Nat) : Int), D.tup ((srt (told P ks x)).map spD)]) (.int ((kl.length : Nat) : Int)) = dcD kdD (plcs (kl ++ [kd P ks x])) := pl_put hin
                have hin' : kd P ks pre.length ∉ kl := by rw [← hxl]; exact hin
                have hp2 := hp.new hin'
                have nd2 : (kl ++ [kd P ks x]).Nodup := by rw [hxl]; exact hp2.nd
                have q2 : ixU (.dct 2 (dcD kdD (plcs (kl ++ [kd P ks x])))) (D.tup [D.int ((kat ks x : Nat) : Int), D.tup ((srt (told P ks x)).map spD)]) = some (.fz (.int ((kl.length : Nat) : Int))) := pl_ix nd2 (by rw [List.getElem?_append_right (Nat.le_refl _), Nat.sub_self]; rfl)
                have q4 : (dcD kdD (plcs kl)).length = kl.length := plcs_len kl
                simp! only [rng1, rng2, slD, inU, q1, q0, q2, q3, q4, gApp, nobox_nat]
                refine ⟨by omega, by rw [List.length_map]; omega, kl ++ [kd P ks x], ls ++ [kl.length], some (.fz (.int (x : Int))), some (.own (.lst ((told P ks x).map spD))), some (.fz (.tup [.int ((kat ks x : Nat) : Int), .tup ((srt (told P ks x)).map spD)])), ?_, rfl, rfl, rfl, by rw [natsD_snoc]⟩
                rw [List.length_append, hxl]
                exact hp2
        · rintro e ⟨kl, ls, o6, o8, o9, hp, i6, i8, i9, rfl⟩
          rw [List.length_range] at hp
          have R : Rnd P ks kl ls := ⟨hp.len, hp.nd, hp.at_, hp.from_⟩
          obtain ⟨k1, k2, k3⟩ := round_ki W hk R
          have hkl : kl.length ≤ P.length := Prt.more hp.from_ hp.nd
          have q4 : (dcD kdD (plcs kl)).length = kl.length := plcs_len kl
          rcases hkb with rfl | rfl
          · simp! only [ixU, rng1, rng2, slD, inU, notInU, q4, opens_nat]
            refine ⟨if f = kl.length then 0 else P.length + 1 - kl.length, by split <;> omega, ls, kl.length, f, .fz (natsD ls), _, _, o6, o8, o9, .inl rfl, k1, hkl, fun z => ⟨k3 (by omega), rfl⟩, fun z => by rw [if_neg z]; omega, rfl, rfl, i6, i8, i9, rfl⟩
          · simp! only [ixU, rng1, rng2, slD, inU, notInU, q4, opens_nat]
            refine ⟨if f = kl.length then 0 else P.length + 1 - kl.length, by split <;> omega, ls, kl.length, f, .fz (natsD ls), _, _, o6, o8, o9, .inl rfl, k1, hkl, fun z => ⟨k3 (by omega), rfl⟩, fun z => by rw [if_neg z]; omega, rfl, rfl, i6, i8, i9, rfl⟩
end LW
namespace LW
open PySem PySem.Spec PyProof.Rows L2 VE SV
local macro_rules | `(tactic| simp! only [$as,*]) => `(tactic| simp -dsimp only [Tk_bind, Tk_pure, Tk_none, Tk_xc, Tk_xv, Tk_xf, Tk_xm, Tk_frz, Tk_x2, Tk_x1, Tk_bt, Tk_bAnd, Tk_bOr, Tk_bNot, Tk_xAnd, Tk_xOr, Tk_xNot, Tk_xIf, Tk_aNil, Tk_aCons, Tk_xTup, Tk_xLst, Tk_xB, Tk_xSet, Tk_oNone, Tk_oSome, Tk_xSl, Tk_xChain, Ts_sNil, Ts_sBrk, Ts_sCnt, Ts_sSeq, Ts_sDrop, Ts_sRet, Ts_sRetN, Ts_sIf, Ts_sSet, Ts_sAsg, Ts_sPar, Ts_sPar3, Ts_sFor, Ts_sWhile, Ts_sRaise, Sq, Tk_itN, itnO_own, Ts_sForO, Tk_itD, Tk_itR1, Tk_itR2, Tk_itE, Tk_itZ, Tk_callE, Tk_xdef, Tk_xNam, Tk_xMk, Tk_aRecv, Tk_xMeth, Tk_xProp, Tk_xFld, Tk_two, Tk_lenO, Tk_xOpO, Tk_xIsI, Tk_xDn, Tk_xDisp1, Tk_xJoin, Tk_xEv, Tk_xIsE, Tk_bYes, Tk_xMut, Ts_stU, Ts_sStU, Ts_sFldE, Ts_sTry, Ts_sSetE, Tk_semF, Tk_xLc, Bif_t, Bif_f, So_some, So_none, So_map, So_bind, So_ite, So_ite', rdv, xfk, xmk, frv, bov, nfr, inv1, fzo, itv, enuv, zipv, ncal, xcal, lastI, nmk, xmkx, fldv, natv, one1, Stu, owE, fldk, Tryk, endk, turn, Tg, endO, mapO, restO, ownB, itemsO_t, itemsO_f, deref, derefs, fzs, stow_fz, stow_fr, ioo_none, ioo_fz, ioo_own, ioo_io, argsE, backE, bors, ioB, Bnd.d, Bnd.put, Bnd.ow, putE, ownL, ownD, wipeE, restE, okV, gN, gsN, gsC, gT, flatD, noBox, open_, opens, openV, pick, isIns, intsV, Tg_gN, Int.cast_ofNat_Int, Int.natCast_zero, Int.natCast_one, eqB_int, eqB_str, eqB_bl, joinD, opens_str, opens_str', nobox_str, nobox_str', opens_int, opens_int', nobox_int, nobox_int', opens_bl, opens_bl', nobox_bl, nobox_bl', addD, subD, mulD, mulU, divD, modD, powD, andD, cmpD, ltD, gtD, leD, geD, eqD, neD, isD, isntD, VE.isNon, ixD, lenU, lenD, VE.intD, absD, max2D, min2D, listD, tupleD, boolsD, anyD, allD, negD, List.getElem?_cons_zero, List.getElem?_cons_succ, List.getElem?_nil, List.length_cons, List.length_nil, List.set_cons_zero, List.set_cons_succ, List.set_nil, List.cons_append, List.nil_append, List.append_nil, List.replicate_succ, List.replicate_zero, List.all_cons, List.all_nil, List.map_cons, List.map_nil, List.any_cons, List.any_nil, List.getLast?_cons_cons, List.getLast?_singleton, List.dropLast_cons₂, List.dropLast_singleton, List.getD_cons_zero, List.getD_cons_succ, List.getD_nil, List.nodup_nil, List.nodup_cons, List.not_mem_nil, List.mem_cons, List.mem_singleton, Option.bind_some, Option.bind_none, Option.map_some, Option.map_none, id, Option.isSome_some, Option.isSome_none, and_true, true_and, and_self, and_false, false_and, or_true, true_or, or_false, false_or, not_true_eq_false, not_false_eq_true, if_true, if_false, ite_true, ite_false, reduceCtorEq, Bool.not_true, Bool.not_false, Bool.and_true, Bool.true_and, Bool.and_false, Bool.false_and, Bool.or_true, Bool.true_or, decide_true, decide_false, Bool.and_self, Bool.or_self, Bool.or_false, Bool.false_or, Bool.not_not, eq_self, forall_const, implies_true, Nat.reduceAdd, Nat.reduceSub, Nat.reduceMul, Nat.reduceLT, Nat.reduceLeDiff, Nat.reduceEqDiff, Nat.reduceBEq, Nat.reduceSucc, Int.reduceAdd, Int.reduceSub, Int.reduceMul, Int.reduceLT, Int.reduceLE, Int.reduceEq, Int.reduceNeg, Int.reduceToNat, Int.reduceNe, Nat.reduceGT, Int.reduceDiv, Int.reduceMod, Nat.zero_add, Nat.reduceDiv, Nat.reduceMod, $as,*])
abbrev tupR (r : List Zs) : D := .tup (r.map spD)
theorem nobox_tupR (l : Plan) : (l.map tupR).all noBox = true := nobox_tup (fun r : List Zs => r.map spD) l
theorem opens_tupR (l : Plan) : opens (l.map tupR) = l.map tupR := opens_tup (fun r : List Zs => r.map spD) l
section
variable {P : Plan} {ks o : List Nat} {g : Nat}
theorem po_notin (hk : ∀ x, x < P.length → (kat ks x = kat ks g ↔ tr P x = tr P g)) (ho : ∀ x ∈ o, x < P.length) : notInU (.int ((kat ks g : Nat) : Int)) (.dct 0 (dcD natD (plO ks o))) = some (.fz (.bl (!(plc (Eq' P) o g).isSome))) := by
  show (dKey 0 (natD (kat ks g))).map (fun n => Val.fz (.bl (!(dGet (dcD natD (plO ks o)) n).isSome))) = _
  rw [dKey_nat, Option.map_some, plO_at hk ho, Option.isSome_map]
theorem po_ix {i : Nat} (hk : ∀ x, x < P.length → (kat ks x = kat ks g ↔ tr P x = tr P g)) (ho : ∀ x ∈ o, x < P.length) (h : plc (Eq' P) o g = some i) : ixU (.dct 0 (dcD natD (plO ks o))) (.int ((kat ks g : Nat) : Int)) = some (.fz (.int ((i : Nat) : Int))) := by
  show (dKey 0 (natD (kat ks g))).bind (fun n => (dGet (dcD natD (plO ks o)) n).map Val.fz) = _
  rw [dKey_nat, Option.bind_some, plO_at hk ho, h]; rfl
theorem plc_snoc (hn : plc (Eq' P) o g = none) : plc (Eq' P) (o ++ [g]) g = some o.length := by
  unfold plc at hn ⊢
  rw [List.findIdx?_append, hn]
  have : Eq' P g g = true := Eq'_iff.mpr rfl
  simp [this]
theorem plO_len : (dcD natD (plO ks o)).length = o.length := by simp [plO]
end
theorem spsnoc (l : List Zs) (s : Zs) : (l ++ [s]).map spD = l.map spD ++ [spD s] := by simp
theorem tupsnoc (l : Plan) (r : List Zs) : (l ++ [r]).map tupR = l.map tupR ++ [tupR r] := by simp
theorem least_spec {P : Plan} (W : Wf P) (h0 : P ≠ []) (hn : P.length ≤ 60) (hr : ∀ a, (P.getD a []).length ≤ 1000) :
    Tk F_least_rooms [some (.fz (planD P))] (fun v e => v = .fz (.tup ((least P).map tupR)) ∧ e = [none]) NX := by
  unfold F_least_rooms pg_least_rooms
  simp! only [ixU, rng1, rng2, slD, inU, notInU]
  refine (kinds_spec W h0 hn hr).mono' ?_
  rintro _ _ ⟨ks, rfl, hkl, hks, rfl⟩
  have hp : 0 < P.length := List.length_pos_iff.mpr h0
  have q0 : ixU (natsD ks) (.int 0) = some (.fz (.int ((kat ks 0 : Nat) : Int))) := nats_at (a := 0) (by omega)
  simp! only [rng1, rng2, slD, inU, notInU, q0, keyD]
  refine Wh.inv (m := P.length + 1) (fun m e => ∃ (o : List Nat) (f : Plan) (o5 o6 o7 o8 o9 : Option Bnd), Ord P o ∧ f.length ≤ o.length ∧ least P = bfs (Eq' P) P m o f ∧ m + f.length = P.length + 1 ∧
      ioo (some o5) = false ∧ ioo (some o6) = false ∧ ioo (some o7) = false ∧ ioo (some o8) = false ∧ ioo (some o9) = false ∧
      e = [some (.fz (planD P)), some (.fz (natsD ks)), some (.own (.dct 0 (dcD natD (plO ks o)))), some (.own (natsD o)), some (.own (.lst (f.map tupR))), o5, o6, o7, o8, o9])
      ⟨[0], [], none, none, none, none, none, ⟨fun x hx => by rw [List.mem_singleton.mp hx]; exact hp, List.pairwise_singleton _ _⟩, Nat.zero_le _, rfl, rfl, rfl, rfl, rfl, rfl, rfl, rfl⟩ (by omega) ?_
  rintro m e ⟨o, f, o5, o6, o7, o8, o9, ho, hfo, hb, hm, i5, i6, i7, i8, i9, rfl⟩
  have hol := ho.le
  simp! only [rng1, rng2, slD, inU, notInU, nobox_nat, nobox_tupR, List.length_map]
  refine Bif.mkd (fun hlt => ?_) (fun hlt => ?_)
  · have hlt : f.length < o.length := by omega
    have ha : o[f.length]? = some (kat o f.length) := by
      unfold kat; rw [List.getD_eq_getElem?_getD, List.getElem?_eq_getElem hlt]; rfl
    have han : kat o f.length < P.length := ho.lt _ (List.mem_of_getElem? ha)
    have q1 := nats_at hlt
    have q2 := plan_at han
    simp! only [rng1, rng2, slD, inU, notInU, i5, nobox_nat, nobox_tupR, nobox_sp, opens_sp, List.length_map, q1, q2, sorted_sp]
    refine Fr.inv (srt (P.getD (kat o f.length) [])) (fun pre e => ∃ (o' : List Nat) (st : List Zs) (o6 o7 o8 o9 : Option Bnd), (o', st) = pre.foldl (stpB (Eq' P)) (o, []) ∧ Ord P o' ∧ o.length ≤ o'.length ∧ st.length = pre.length ∧
      ioo (some o6) = false ∧ ioo (some o7) = false ∧ ioo (some o8) = false ∧ ioo (some o9) = false ∧
      e = [some (.fz (planD P)), some (.fz (natsD ks)), some (.own (.dct 0 (dcD natD (plO ks o')))), some (.own (natsD o')), some (.own (.lst (f.map tupR))), some (.own (.lst (st.map spD))), o6, o7, o8, o9])
      ⟨o, [], o6, o7, o8, o9, rfl, ho, Nat.le_refl _, rfl, i6, i7, i8, i9, rfl⟩ ?_ ?_
    · rintro pre s post e hx ⟨o', st, o6, o7, o8, o9, hst, ho', hoo, hsl, i6, i7, i8, i9, rfl⟩
      have hsm : s ∈ P.getD (kat o f.length) [] := (srt_perm _).mem_iff.mp (by rw [hx]; simp)
      have hsn : s.to < P.length := (W.room _).2 s hsm
      have hsk : s.to < ks.length := by omega
      have hk : ∀ x, x < P.length → (kat ks x = kat ks s.to ↔ tr P x = tr P s.to) := fun x hx => hks x s.to hx hsn
      have hol' := ho'.le
      have hsl' : st.length ≤ 1000 := by
        have h1 := congrArg List.length hx
        rw [(srt_perm _).length_eq, List.length_append] at h1
        have := hr (kat o f.length)
        omega
      have q3 := nats_at hsk
      have q4 := po_notin (o := o') hk ho'.lt
      obtain ⟨w1, w2⟩ := ho'.stp (st := st) hsn
      cases hpl : plc (Eq' P) o' s.to with
      | some i =>
        have q5 := po_ix hk ho'.lt hpl
        rw [hpl] at q4
        simp! only [rng1, rng2, slD, inU, i6, i7, i8, i9, q3, q4, q5, gApp, nobox_nat, nobox_tupR, nobox_sp, List.length_map]
        have hs2 : stpB (Eq' P) (o', st) s = (o', st ++ [{ s with to := i }]) := by unfold stpB; dsimp only; rw [hpl]
        refine ⟨by omega, o', st ++ [{ s with to := i }], _, _, _, _, ?_, ho', hoo, by simp [hsl], rfl, rfl, rfl, rfl, by rw [spsnoc]⟩
        rw [List.foldl_append, ← hst]
        exact hs2.symm
      | none =>
        rw [hpl] at q4
        have ho2 := ho'.snoc hsn hpl
        have q5 := po_ix hk ho2.lt (plc_snoc hpl)
        have q6 := plO_put hk ho'.lt hpl
        have q7 : dKey 0 (.int ((kat ks s.to : Nat) : Int)) = some (natN (kat ks s.to)) := rfl
        have q8 : (dcD natD (plO ks o')).length = o'.length := plO_len
        simp! only [rng1, rng2, slD, inU, i6, i7, i8, i9, q3, q4, q5, q6, q7, q8, gApp, nobox_nat, nobox_tupR, nobox_sp, List.length_map]
        have hs2 : stpB (Eq' P) (o', st) s = (o' ++ [s.to], st ++ [{ s with to := o'.length }]) := by unfold stpB; dsimp only; rw [hpl]
        refine ⟨by omega, by omega, by omega, o' ++ [s.to], st ++ [{ s with to := o'.length }], _, _, _, _, ?_, ho2, by rw [List.length_append]; omega, by simp [hsl], rfl, rfl, rfl, rfl, by rw [spsnoc, natsD_snoc]⟩
        rw [List.foldl_append, ← hst]
        exact hs2.symm
    · rintro e ⟨o', st, o6, o7, o8, o9, hst, ho', hoo, hsl, i6, i7, i8, i9, rfl⟩
      simp! only [ixU, rng1, rng2, slD, inU, notInU, nobox_tupR, nobox_sp, opens_sp, gApp, List.length_map]
      have hm0 : 0 < m := by omega
      have hstep : bfs (Eq' P) P m o f = bfs (Eq' P) P (m - 1) o' (f ++ [st]) := by
        have e1 : m = m - 1 + 1 := by omega
        rw [e1, bfs_step ha, Nat.add_sub_cancel]
        unfold roomB
        rw [← hst]
      refine ⟨by omega, m - 1, by omega, o', f ++ [st], _, _, _, _, _, ho', by simp; omega, by rw [hb, hstep], by simp; omega, rfl, i6, i7, i8, i9, by rw [tupsnoc]⟩
  · have hle : o.length ≤ f.length := by omega
    rw [bfs_end hle] at hb
    simp! only [ixU, rng1, rng2, slD, inU, notInU, nobox_tupR]
    rw [hb]
end LW
namespace LW
open PySem PySem.Spec PyProof.Rows L2 VE SV
local macro_rules | `(tactic| simp! only [$as,*]) => `(tactic| simp -dsimp only [Tk_bind, Tk_pure, Tk_none, Tk_xc, Tk_xv, Tk_xf, Tk_xm, Tk_frz, Tk_x2, Tk_x1, Tk_bt, Tk_bAnd, Tk_bOr, Tk_bNot, Tk_xAnd, Tk_xOr, Tk_xNot, Tk_xIf, Tk_aNil, Tk_aCons, Tk_xTup, Tk_xLst, Tk_xB, Tk_xSet, Tk_oNone, Tk_oSome, Tk_xSl, Tk_xChain, Ts_sNil, Ts_sBrk, Ts_sCnt, Ts_sSeq, Ts_sDrop, Ts_sRet, Ts_sRetN, Ts_sIf, Ts_sSet, Ts_sAsg, Ts_sPar, Ts_sPar3, Ts_sFor, Ts_sWhile, Ts_sRaise, Sq, Tk_itN, itnO_own, Ts_sForO, Tk_itD, Tk_itR1, Tk_itR2, Tk_itE, Tk_itZ, Tk_callE, Tk_xdef, Tk_xNam, Tk_xMk, Tk_aRecv, Tk_xMeth, Tk_xProp, Tk_xFld, Tk_two, Tk_lenO, Tk_xOpO, Tk_xIsI, Tk_xDn, Tk_xDisp1, Tk_xJoin, Tk_xEv, Tk_xIsE, Tk_bYes, Tk_xMut, Ts_stU, Ts_sStU, Ts_sFldE, Ts_sTry, Ts_sSetE, Tk_semF, Tk_xLc, Bif_t, Bif_f, So_some, So_none, So_map, So_bind, So_ite, So_ite', rdv, xfk, xmk, frv, bov, nfr, inv1, fzo, itv, enuv, zipv, ncal, xcal, lastI, nmk, xmkx, fldv, natv, one1, Stu, owE, fldk, Tryk, endk, turn, Tg, endO, mapO, restO, ownB, itemsO_t, itemsO_f, deref, derefs, fzs, stow_fz, stow_fr, ioo_none, ioo_fz, ioo_own, ioo_io, argsE, backE, bors, ioB, Bnd.d, Bnd.put, Bnd.ow, putE, ownL, ownD, wipeE, restE, okV, gN, gsN, gsC, gT, flatD, noBox, open_, opens, openV, pick, isIns, intsV, Tg_gN, Int.cast_ofNat_Int, Int.natCast_zero, Int.natCast_one, eqB_int, eqB_str, eqB_bl, joinD, opens_str, opens_str', nobox_str, nobox_str', opens_int, opens_int', nobox_int, nobox_int', opens_bl, opens_bl', nobox_bl, nobox_bl', addD, subD, mulD, mulU, divD, modD, powD, andD, cmpD, ltD, gtD, leD, geD, eqD, neD, isD, isntD, VE.isNon, ixD, lenU, lenD, VE.intD, absD, max2D, min2D, listD, tupleD, boolsD, anyD, allD, negD, List.getElem?_cons_zero, List.getElem?_cons_succ, List.getElem?_nil, List.length_cons, List.length_nil, List.set_cons_zero, List.set_cons_succ, List.set_nil, List.cons_append, List.nil_append, List.append_nil, List.replicate_succ, List.replicate_zero, List.all_cons, List.all_nil, List.map_cons, List.map_nil, List.any_cons, List.any_nil, List.getLast?_cons_cons, List.getLast?_singleton, List.dropLast_cons₂, List.dropLast_singleton, List.getD_cons_zero, List.getD_cons_succ, List.getD_nil, List.nodup_nil, List.nodup_cons, List.not_mem_nil, List.mem_cons, List.mem_singleton, Option.bind_some, Option.bind_none, Option.map_some, Option.map_none, id, Option.isSome_some, Option.isSome_none, and_true, true_and, and_self, and_false, false_and, or_true, true_or, or_false, false_or, not_true_eq_false, not_false_eq_true, if_true, if_false, ite_true, ite_false, reduceCtorEq, Bool.not_true, Bool.not_false, Bool.and_true, Bool.true_and, Bool.and_false, Bool.false_and, Bool.or_true, Bool.true_or, decide_true, decide_false, Bool.and_self, Bool.or_self, Bool.or_false, Bool.false_or, Bool.not_not, eq_self, forall_const, implies_true, Nat.reduceAdd, Nat.reduceSub, Nat.reduceMul, Nat.reduceLT, Nat.reduceLeDiff, Nat.reduceEqDiff, Nat.reduceBEq, Nat.reduceSucc, Int.reduceAdd, Int.reduceSub, Int.reduceMul, Int.reduceLT, Int.reduceLE, Int.reduceEq, Int.reduceNeg, Int.reduceToNat, Int.reduceNe, Nat.reduceGT, Int.reduceDiv, Int.reduceMod, Nat.zero_add, Nat.reduceDiv, Nat.reduceMod, $as,*])
theorem sgIn {sg : Str} (h : sg = "!" ∨ sg = "?") : notInU (.str sg) (.tup [.str "!", .str "?"]) = some (.fz (.bl false)) := by
  rcases h with rfl | rfl <;> rfl
structure POk (P : Plan) : Prop where
  wf : Wf P
  ne : P ≠ []
  len : P.length ≤ 60
  rl : ∀ r ∈ P, r.length ≤ 60
  nm : ∀ r ∈ P, ∀ s ∈ r, (s.sg = "!" ∨ s.sg = "?") ∧ Good s.ln ∧ Good s.wd
theorem POk.get {P : Plan} (h : POk P) (a : Nat) : (P.getD a []).length ≤ 60 := by
  rw [List.getD_eq_getElem?_getD]
  cases hr : P[a]? with
  | none => simp
  | some r => exact h.rl r (List.mem_of_getElem? hr)
theorem check_rooms_ok {P : Plan} (h : POk P) : Tk F_check_rooms [some (.fz (planD P))] (fun v e => v = .fz .non ∧ e = [none]) NX := by
  unfold F_check_rooms pg_check_rooms
  have hlen := h.len
  have rk : rng1 [((P.length : Nat) : Int)] = some ((List.range P.length).map fun i => D.int ((i : Nat) : Int)) := rng_of (by omega)
  simp! only [ixU, rng1, rng2, slD, inU, notInU]
  refine Fr.inv P (fun pre e => ∃ (o1 o2 o3 o4 o5 o6 : Option Bnd), ioo (some o1) = false ∧ ioo (some o3) = false ∧ ioo (some o4) = false ∧ ioo (some o5) = false ∧ ioo (some o6) = false ∧
    e = [some (.fz (planD P)), o1, none, o3, o4, o5, o6, none]) ⟨none, none, none, none, none, none, rfl, rfl, rfl, rfl, rfl, rfl⟩ ?_ ?_
  · rintro pre r post e hx ⟨o1, o2, o3, o4, o5, o6, i1, i3, i4, i5, i6, rfl⟩
    have hr : r ∈ P := by rw [hx]; simp
    simp! only [ixU, rng1, rng2, slD, inU, notInU, i1]
    refine Fr.inv r (fun pre' e => ∃ (o3 o4 o5 o6 : Option Bnd), ioo (some o3) = false ∧ ioo (some o4) = false ∧ ioo (some o5) = false ∧ ioo (some o6) = false ∧
      e = [some (.fz (planD P)), some (.fz (roomD r)), none, o3, o4, o5, o6, none]) ⟨o3, o4, o5, o6, i3, i4, i5, i6, rfl⟩ ?_ ?_
    · rintro pre' s post' e hx' ⟨o3, o4, o5, o6, i3, i4, i5, i6, rfl⟩
      have hs : s ∈ r := by rw [hx']; simp
      obtain ⟨n1, n2, n3⟩ := h.nm r hr s hs
      have hto := h.wf.to r hr s hs
      have t1 : (0 : Int) ≤ (s.to : Int) := by omega
      have t2 : ((s.to : Nat) : Int) < ((P.length : Nat) : Int) := by omega
      simp! only [ixU, rng1, rng2, slD, inU, i3, i4, i5, i6, sgIn n1, t1, t2, List.length_map]
      refine (check_name_ok n2).mono' ?_
      rintro _ _ ⟨rfl, rfl⟩
      simp! only [ixU, rng1, rng2, slD, inU, notInU]
      refine (check_name_ok n3).mono' ?_
      rintro _ _ ⟨rfl, rfl⟩
      simp! only [ixU, rng1, rng2, slD, inU, notInU]
      exact ⟨_, _, _, _, rfl, rfl, rfl, rfl, rfl⟩
    · rintro e ⟨o3, o4, o5, o6, i3, i4, i5, i6, rfl⟩
      exact ⟨_, none, _, _, _, _, rfl, i3, i4, i5, i6, rfl⟩
  · rintro e ⟨o1, o2, o3, o4, o5, o6, i1, i3, i4, i5, i6, rfl⟩
    simp! only [ixU, rng2, slD, inU, notInU, List.length_map, rk]
    refine Fr.inv (List.range P.length) (fun pre e => ∃ (o2 : Option Bnd), ioo (some o2) = false ∧ e = [some (.fz (planD P)), o1, o2, o3, o4, o5, o6, none]) ⟨none, rfl, rfl⟩ ?_ ?_
    · rintro pre x post e hx ⟨o2, i2, rfl⟩
      have hxn : x < P.length := by
        have : x ∈ List.range P.length := by rw [hx]; simp
        exact List.mem_range.mp this
      have hpa := plan_at (P := P) hxn
      have hl := h.get x
      simp! only [rng1, rng2, slD, inU, notInU, i2, hpa]
      refine ⟨by rw [List.length_map]; omega, Lr.mapT (P.getD x []) (fun s => kyD s.key) ?_ ?_⟩
      · intro s hs
        simp! only [ixU, rng1, rng2, inU, notInU, sl3']
      · have e1 : (P.getD x []).map (fun s => kyD s.key) = ((P.getD x []).map Zs.key).map kyD := by rw [List.map_map]; rfl
        rw [e1]
        have g1 := gls_nodup (l := (P.getD x []).map Zs.key) (by rw [List.length_map]; omega) (h.wf.room x).1
        simp! only [rng1, rng2, slD, inU, notInU, opens_ky, g1, hpa, List.length_map]
        have g2 : ¬ (((P.getD x []).length : Nat) : Int) < (((P.getD x []).length : Nat) : Int) := by omega
        simp! only [ixU, rng1, rng2, slD, inU, notInU, g2]
        exact ⟨_, rfl, rfl⟩
    · rintro e ⟨o2, i2, rfl⟩
      simp! only [ixU, rng1, rng2, slD, inU, notInU]
noncomputable abbrev svcP (P : Plan) : D := .ins "Service" [("kept_rooms", .tup ((least P).map tupR))]
theorem init_ok {P : Plan} (h : POk P) : Tk F_Service___init [some (.io (.ins "Service" [])), some (.fz (planD P))] (fun v e => v = .fz .non ∧ e = [some (.io (svcP P)), none]) NX := by
  unfold F_Service___init pg_Service___init
  simp! only [ixU, rng1, rng2, slD, inU, notInU]
  refine (check_rooms_ok h).mono' ?_
  rintro _ _ ⟨rfl, rfl⟩
  simp! only [ixU, rng1, rng2, slD, inU, notInU]
  refine (least_spec h.wf h.ne h.len fun a => by have := h.get a; omega).mono' ?_
  rintro _ _ ⟨rfl, rfl⟩
  simp! only [ixU, rng1, rng2, slD, inU, notInU, putD]
end LW
namespace LW
open PySem PySem.Spec PyProof.Rows L2 VE SV
local macro_rules | `(tactic| simp! only [$as,*]) => `(tactic| simp -dsimp only [Tk_bind, Tk_pure, Tk_none, Tk_xc, Tk_xv, Tk_xf, Tk_xm, Tk_frz, Tk_x2, Tk_x1, Tk_bt, Tk_bAnd, Tk_bOr, Tk_bNot, Tk_xAnd, Tk_xOr, Tk_xNot, Tk_xIf, Tk_aNil, Tk_aCons, Tk_xTup, Tk_xLst, Tk_xB, Tk_xSet, Tk_oNone, Tk_oSome, Tk_xSl, Tk_xChain, Ts_sNil, Ts_sBrk, Ts_sCnt, Ts_sSeq, Ts_sDrop, Ts_sRet, Ts_sRetN, Ts_sIf, Ts_sSet, Ts_sAsg, Ts_sPar, Ts_sPar3, Ts_sFor, Ts_sWhile, Ts_sRaise, Sq, Tk_itN, itnO_own, Ts_sForO, Tk_itD, Tk_itR1, Tk_itR2, Tk_itE, Tk_itZ, Tk_callE, Tk_xdef, Tk_xNam, Tk_xMk, Tk_aRecv, Tk_xMeth, Tk_xProp, Tk_xFld, Tk_two, Tk_lenO, Tk_xOpO, Tk_xIsI, Tk_xDn, Tk_xDisp1, Tk_xJoin, Tk_xEv, Tk_xIsE, Tk_bYes, Tk_xMut, Ts_stU, Ts_sStU, Ts_sFldE, Ts_sTry, Ts_sSetE, Tk_semF, Tk_xLc, Bif_t, Bif_f, So_some, So_none, So_map, So_bind, So_ite, So_ite', rdv, xfk, xmk, frv, bov, nfr, inv1, fzo, itv, enuv, zipv, ncal, xcal, lastI, nmk, xmkx, fldv, natv, one1, Stu, owE, fldk, Tryk, endk, turn, Tg, endO, mapO, restO, ownB, itemsO_t, itemsO_f, deref, derefs, fzs, stow_fz, stow_fr, ioo_none, ioo_fz, ioo_own, ioo_io, argsE, backE, bors, ioB, Bnd.d, Bnd.put, Bnd.ow, putE, ownL, ownD, wipeE, restE, okV, gN, gsN, gsC, gT, flatD, noBox, open_, opens, openV, pick, isIns, intsV, Tg_gN, Int.cast_ofNat_Int, Int.natCast_zero, Int.natCast_one, eqB_int, eqB_str, eqB_bl, joinD, opens_str, opens_str', nobox_str, nobox_str', opens_int, opens_int', nobox_int, nobox_int', opens_bl, opens_bl', nobox_bl, nobox_bl', addD, subD, mulD, mulU, divD, modD, powD, andD, cmpD, ltD, gtD, leD, geD, eqD, neD, isD, isntD, VE.isNon, ixD, lenU, lenD, VE.intD, absD, max2D, min2D, listD, tupleD, boolsD, anyD, allD, negD, List.getElem?_cons_zero, List.getElem?_cons_succ, List.getElem?_nil, List.length_cons, List.length_nil, List.set_cons_zero, List.set_cons_succ, List.set_nil, List.cons_append, List.nil_append, List.append_nil, List.replicate_succ, List.replicate_zero, List.all_cons, List.all_nil, List.map_cons, List.map_nil, List.any_cons, List.any_nil, List.getLast?_cons_cons, List.getLast?_singleton, List.dropLast_cons₂, List.dropLast_singleton, List.getD_cons_zero, List.getD_cons_succ, List.getD_nil, List.nodup_nil, List.nodup_cons, List.not_mem_nil, List.mem_cons, List.mem_singleton, Option.bind_some, Option.bind_none, Option.map_some, Option.map_none, id, Option.isSome_some, Option.isSome_none, and_true, true_and, and_self, and_false, false_and, or_true, true_or, or_false, false_or, not_true_eq_false, not_false_eq_true, if_true, if_false, ite_true, ite_false, reduceCtorEq, Bool.not_true, Bool.not_false, Bool.and_true, Bool.true_and, Bool.and_false, Bool.false_and, Bool.or_true, Bool.true_or, decide_true, decide_false, Bool.and_self, Bool.or_self, Bool.or_false, Bool.false_or, Bool.not_not, eq_self, forall_const, implies_true, Nat.reduceAdd, Nat.reduceSub, Nat.reduceMul, Nat.reduceLT, Nat.reduceLeDiff, Nat.reduceEqDiff, Nat.reduceBEq, Nat.reduceSucc, Int.reduceAdd, Int.reduceSub, Int.reduceMul, Int.reduceLT, Int.reduceLE, Int.reduceEq, Int.reduceNeg, Int.reduceToNat, Int.reduceNe, Nat.reduceGT, Int.reduceDiv, Int.reduceMod, Nat.zero_add, Nat.reduceDiv, Nat.reduceMod, $as,*])
def KO (k : Ky) : Prop := PyData.strOk k.1 = true ∧ PyData.strOk k.2.1 = true ∧ PyData.strOk k.2.2 = true
theorem ky_pl {k : Ky} (h : KO k) : pl (kyD k) = true := by simp [pl, pls, h.1, h.2.1, h.2.2]
theorem kyD_inj (a b : Ky) (h : kyD a = kyD b) : a = b := by
  simp only [D.tup.injEq, List.cons.injEq, D.str.injEq] at h
  obtain ⟨h1, h2, h3, _⟩ := h
  exact Prod.ext h1 (Prod.ext h2 h3)
theorem eqB_ky {a b : Ky} (ha : KO a) (hb : KO b) : eqB (kyD a) (kyD b) = some (decide (a = b)) :=
  eqB_enc kyD kyD_inj (ky_pl ha) (ky_pl hb) (by simp [dpt, dpts]) (by simp [dpt, dpts])
theorem strOk_sg {s : Str} (h : s = "!" ∨ s = "?") : PyData.strOk s = true := by
  rcases h with rfl | rfl <;> decide +kernel
theorem good_ok {s : Str} (h : Good s) : PyData.strOk s = true := by
  unfold PyData.strOk
  rw [← Array.all_toList, List.all_eq_true]
  intro c hc
  have := (h.2.2 c hc).2
  exact decide_eq_true (by omega)
theorem POk.ko {P : Plan} (h : POk P) {r : List Zs} (hr : r ∈ P) {s : Zs} (hs : s ∈ r) : KO s.key := by
  obtain ⟨h1, h2, h3⟩ := h.nm r hr s hs
  exact ⟨strOk_sg h1, good_ok h2, good_ok h3⟩
theorem POk.ko' {P : Plan} (h : POk P) {a : Nat} {s : Zs} (hs : s ∈ P.getD a []) : KO s.key := by
  rw [List.getD_eq_getElem?_getD] at hs
  cases hr : P[a]? with
  | none => rw [hr] at hs; cases hs
  | some r => rw [hr] at hs; exact h.ko (List.mem_of_getElem? hr) hs
def goR (r : List Zs) (k : Ky) : Option Nat := (r.find? fun s => decide (s.key = k)).map (·.to)
theorem goal_spec {r : List Zs} {k : Ky} (nd : (r.map Zs.key).Nodup) (hk : KO k) (hr : ∀ s ∈ r, KO s.key) : Tk F_l_goal [some (.fz (roomD r)), some (.fz (kyD k))] (fun v e => v = .fz (optD (goR r k)) ∧ e = [none, none]) NX := by
  unfold F_l_goal pg_l_goal
  simp! only [ixU, rng1, rng2, slD, inU, notInU]
  refine Fr.inv r (fun pre e => ∃ (o3 o4 o5 o6 : Option Bnd), ioo (some o3) = false ∧ ioo (some o4) = false ∧ ioo (some o5) = false ∧ ioo (some o6) = false ∧
    e = [some (.fz (roomD r)), some (.fz (kyD k)), some (.fz (optD (goR pre k))), o3, o4, o5, o6]) ⟨none, none, none, none, rfl, rfl, rfl, rfl, rfl⟩ ?_ ?_
  · rintro pre s post e hx ⟨o3, o4, o5, o6, i3, i4, i5, i6, rfl⟩
    have q : eqB (.tup [.str s.sg, .str s.ln, .str s.wd]) (kyD k) = some (decide (s.key = k)) := eqB_ky (hr s (by rw [hx]; simp)) hk
    simp! only [ixU, rng1, rng2, slD, inU, notInU, i3, i4, i5, i6, q]
    refine Bif.mkd (fun h => ?_) (fun h => ?_)
    · simp! only [ixU, rng1, rng2, slD, inU, notInU]
      have e1 : goR (pre ++ [s]) k = some s.to := by
        unfold goR
        have hp : pre.find? (fun s => decide (s.key = k)) = none := by
          rw [List.find?_eq_none]
          intro t ht
          rw [decide_eq_true_iff]
          intro e
          rw [hx, List.map_append, List.nodup_append] at nd
          exact nd.2.2 t.key (List.mem_map_of_mem ht) s.key (by simp) (e.trans h.symm)
        rw [List.find?_append, hp]
        simp [h]
      refine ⟨_, _, _, _, rfl, rfl, rfl, rfl, by rw [e1]⟩
    · simp! only [ixU, rng1, rng2, slD, inU, notInU]
      have e1 : goR (pre ++ [s]) k = goR pre k := by
        unfold goR
        rw [List.find?_append]
        simp [h]
      refine ⟨_, _, _, _, rfl, rfl, rfl, rfl, by rw [e1]⟩
  · rintro e ⟨o3, o4, o5, o6, i3, i4, i5, i6, rfl⟩
    simp! only [ixU, rng1, rng2, slD, inU, notInU]
theorem kys_pls : ∀ {l : List Ky}, (∀ k ∈ l, KO k) → pls (l.map kyD) = true ∧ dpts (l.map kyD) ≤ 1
  | [], _ => ⟨by simp [pls], by simp [dpts]⟩
  | k :: l, h => by
    obtain ⟨h1, h2⟩ := kys_pls (l := l) fun x hx => h x (List.mem_cons_of_mem _ hx)
    refine ⟨by rw [List.map_cons, pls, ky_pl (h k List.mem_cons_self), h1]; rfl, ?_⟩
    rw [List.map_cons, dpts]
    have : dpt (kyD k) = 1 := by simp [dpt, dpts]
    omega
theorem eqB_kys {l m : List Ky} (hl : ∀ k ∈ l, KO k) (hm : ∀ k ∈ m, KO k) : eqB (.lst (l.map kyD)) (.lst (m.map kyD)) = some (decide (l = m)) := by
  obtain ⟨a1, a2⟩ := kys_pls hl
  obtain ⟨b1, b2⟩ := kys_pls hm
  refine eqB_enc (fun l : List Ky => D.lst (l.map kyD)) (fun a b e => ?_) (by simp only [pl]; exact a1) (by simp only [pl]; exact b1) (by simp only [dpt]; omega) (by simp only [dpt]; omega)
  simp only [D.lst.injEq] at e
  exact map_inj kyD_inj e
theorem range_pos {pre : List Nat} {x n : Nat} {post : List Nat} (h : List.range n = pre ++ x :: post) : x = pre.length ∧ x < n := by
  have h2 : pre.length < n := by
    have := congrArg List.length h
    simp at this
    omega
  have h1 := congrArg (fun l => l[pre.length]?) h
  simp at h1
  rw [List.getElem?_range h2] at h1
  have : x = pre.length := by simpa using h1.symm
  exact ⟨this, by omega⟩
theorem range_pre {pre : List Nat} {x n : Nat} {post : List Nat} (h : List.range n = pre ++ x :: post) : pre = List.range pre.length := by
  have h2 := (range_pos h)
  have := congrArg (List.take pre.length) h
  rw [List.take_left', List.take_range] at this
  · rw [Nat.min_eq_left (by omega)] at this; exact this.symm
  · rfl
def mkB (ml : List (Nat × Nat)) (q : Nat × Option Nat) : Bool := ((mkL ml).find? fun p => decide (p.1 = q)).isSome
theorem mkB_iff {ml : List (Nat × Nat)} {q : Nat × Option Nat} : mkB ml q = true ↔ ∃ b, q.2 = some b ∧ (q.1, b) ∈ ml := by
  unfold mkB
  rw [← Option.isSome_map (f := Prod.snd), mk_find, decide_eq_true_iff]
theorem mk_inB {ml : List (Nat × Nat)} {q : Nat × Option Nat} : inU (prD q) (mkD ml) = some (.fz (.bl (mkB ml q))) := by
  show (dKey 2 (prD q)).map (fun n => Val.fz (.bl ((dGet (dcD prD (mkL ml)) n).isSome))) = _
  rw [dKey_pr, Option.map_some, dGet_enc nk_pr prN_inj, Option.isSome_map]
  rfl
end LW
namespace LW
open PySem PySem.Spec PyProof.Rows L2 VE SV
local macro_rules | `(tactic| simp! only [$as,*]) => `(tactic| simp -dsimp only [Tk_bind, Tk_pure, Tk_none, Tk_xc, Tk_xv, Tk_xf, Tk_xm, Tk_frz, Tk_x2, Tk_x1, Tk_bt, Tk_bAnd, Tk_bOr, Tk_bNot, Tk_xAnd, Tk_xOr, Tk_xNot, Tk_xIf, Tk_aNil, Tk_aCons, Tk_xTup, Tk_xLst, Tk_xB, Tk_xSet, Tk_oNone, Tk_oSome, Tk_xSl, Tk_xChain, Ts_sNil, Ts_sBrk, Ts_sCnt, Ts_sSeq, Ts_sDrop, Ts_sRet, Ts_sRetN, Ts_sIf, Ts_sSet, Ts_sAsg, Ts_sPar, Ts_sPar3, Ts_sFor, Ts_sWhile, Ts_sRaise, Sq, Tk_itN, itnO_own, Ts_sForO, Tk_itD, Tk_itR1, Tk_itR2, Tk_itE, Tk_itZ, Tk_callE, Tk_xdef, Tk_xNam, Tk_xMk, Tk_aRecv, Tk_xMeth, Tk_xProp, Tk_xFld, Tk_two, Tk_lenO, Tk_xOpO, Tk_xIsI, Tk_xDn, Tk_xDisp1, Tk_xJoin, Tk_xEv, Tk_xIsE, Tk_bYes, Tk_xMut, Ts_stU, Ts_sStU, Ts_sFldE, Ts_sTry, Ts_sSetE, Tk_semF, Tk_xLc, Bif_t, Bif_f, So_some, So_none, So_map, So_bind, So_ite, So_ite', rdv, xfk, xmk, frv, bov, nfr, inv1, fzo, itv, enuv, zipv, ncal, xcal, lastI, nmk, xmkx, fldv, natv, one1, Stu, owE, fldk, Tryk, endk, turn, Tg, endO, mapO, restO, ownB, itemsO_t, itemsO_f, deref, derefs, fzs, stow_fz, stow_fr, ioo_none, ioo_fz, ioo_own, ioo_io, argsE, backE, bors, ioB, Bnd.d, Bnd.put, Bnd.ow, putE, ownL, ownD, wipeE, restE, okV, gN, gsN, gsC, gT, flatD, noBox, open_, opens, openV, pick, isIns, intsV, Tg_gN, Int.cast_ofNat_Int, Int.natCast_zero, Int.natCast_one, eqB_int, eqB_str, eqB_bl, joinD, opens_str, opens_str', nobox_str, nobox_str', opens_int, opens_int', nobox_int, nobox_int', opens_bl, opens_bl', nobox_bl, nobox_bl', addD, subD, mulD, mulU, divD, modD, powD, andD, cmpD, ltD, gtD, leD, geD, eqD, neD, isD, isntD, VE.isNon, ixD, lenU, lenD, VE.intD, absD, max2D, min2D, listD, tupleD, boolsD, anyD, allD, negD, List.getElem?_cons_zero, List.getElem?_cons_succ, List.getElem?_nil, List.length_cons, List.length_nil, List.set_cons_zero, List.set_cons_succ, List.set_nil, List.cons_append, List.nil_append, List.append_nil, List.replicate_succ, List.replicate_zero, List.all_cons, List.all_nil, List.map_cons, List.map_nil, List.any_cons, List.any_nil, List.getLast?_cons_cons, List.getLast?_singleton, List.dropLast_cons₂, List.dropLast_singleton, List.getD_cons_zero, List.getD_cons_succ, List.getD_nil, List.nodup_nil, List.nodup_cons, List.not_mem_nil, List.mem_cons, List.mem_singleton, Option.bind_some, Option.bind_none, Option.map_some, Option.map_none, id, Option.isSome_some, Option.isSome_none, and_true, true_and, and_self, and_false, false_and, or_true, true_or, or_false, false_or, not_true_eq_false, not_false_eq_true, if_true, if_false, ite_true, ite_false, reduceCtorEq, Bool.not_true, Bool.not_false, Bool.and_true, Bool.true_and, Bool.and_false, Bool.false_and, Bool.or_true, Bool.true_or, decide_true, decide_false, Bool.and_self, Bool.or_self, Bool.or_false, Bool.false_or, Bool.not_not, eq_self, forall_const, implies_true, Nat.reduceAdd, Nat.reduceSub, Nat.reduceMul, Nat.reduceLT, Nat.reduceLeDiff, Nat.reduceEqDiff, Nat.reduceBEq, Nat.reduceSucc, Int.reduceAdd, Int.reduceSub, Int.reduceMul, Int.reduceLT, Int.reduceLE, Int.reduceEq, Int.reduceNeg, Int.reduceToNat, Int.reduceNe, Nat.reduceGT, Int.reduceDiv, Int.reduceMod, Nat.zero_add, Nat.reduceDiv, Nat.reduceMod, $as,*])
theorem ix_strs {ls : List Str} {r : Int} (h0 : 0 ≤ r) (h1 : r < ((ls.length : Nat) : Int)) : ∃ s, s ∈ ls ∧ ixU (.lst (ls.map D.str)) (.int r) = some (.fz (.str s)) := by
  have hl : r.toNat < ls.length := by omega
  refine ⟨ls[r.toNat], List.getElem_mem hl, ?_⟩
  have h2 : ((r.toNat : Nat) : Int) = r := by omega
  have h3 := ix_lst (f := D.str) (List.getElem?_eq_getElem hl)
  rw [h2] at h3
  exact h3
theorem ix_sg {r : Int} (h0 : 0 ≤ r) (h1 : r < 2) : ∃ s, ixU (.lst [.str "!", .str "?"]) (.int r) = some (.fz (.str s)) ∧ (s = "!" ∨ s = "?") := by
  have : r = 0 ∨ r = 1 := by omega
  rcases this with rfl | rfl
  · exact ⟨_, rfl, .inl rfl⟩
  · exact ⟨_, rfl, .inr rfl⟩
theorem ix_and {w : Int} (h0 : 0 ≤ w) (h1 : w < 6) : ∃ s, ixU (.lst [.str "!", .str "?"]) (.int (Builtin.bitAnd w 1)) = some (.fz (.str s)) ∧ (s = "!" ∨ s = "?") := by
  have h : ∀ i : _root_.Fin 6, 0 ≤ Builtin.bitAnd ((i.val : Nat) : Int) 1 ∧ Builtin.bitAnd ((i.val : Nat) : Int) 1 < 2 := by decide +kernel
  have h2 := h ⟨w.toNat, by omega⟩
  have e : ((w.toNat : Nat) : Int) = w := by omega
  simp only [e] at h2
  exact ix_sg h2.1 h2.2
structure ROk (ls ws : List Str) (n : Nat) (r : List Zs) : Prop where
  nd : (r.map Zs.key).Nodup
  to : ∀ s ∈ r, s.to < n
  sg : ∀ s ∈ r, s.sg = "!" ∨ s.sg = "?"
  ln : ∀ s ∈ r, s.ln ∈ ls
  wd : ∀ s ∈ r, s.wd ∈ ws
abbrev rl (r : List Zs) : List (Ky × D) := r.map fun s => (s.key, .int ((s.to : Nat) : Int))
def setR (r : List Zs) (k : Ky) (t : Nat) : List Zs := r.map fun s => if s.key = k then { s with to := t } else s
theorem setR_key (r : List Zs) (k : Ky) (t : Nat) : (setR r k t).map Zs.key = r.map Zs.key := by
  unfold setR
  rw [List.map_map]
  refine List.map_congr_left fun s _ => ?_
  simp only [Function.comp]
  split <;> rfl
theorem ROk.nil {ls ws : List Str} {n : Nat} : ROk ls ws n [] := ⟨List.nodup_nil, fun s h => absurd h (List.not_mem_nil), fun s h => absurd h (List.not_mem_nil), fun s h => absurd h (List.not_mem_nil), fun s h => absurd h (List.not_mem_nil)⟩
theorem ROk.snoc {ls ws : List Str} {n : Nat} {r : List Zs} (h : ROk ls ws n r) {s : Zs} (hk : s.key ∉ r.map Zs.key) (h1 : s.to < n) (h2 : s.sg = "!" ∨ s.sg = "?") (h3 : s.ln ∈ ls) (h4 : s.wd ∈ ws) : ROk ls ws n (r ++ [s]) := by
  have all : ∀ {p : Zs → Prop}, (∀ x ∈ r, p x) → p s → ∀ x ∈ r ++ [s], p x := fun a b x hx => by
    rcases List.mem_append.mp hx with hx | hx
    · exact a x hx
    · rw [List.mem_singleton.mp hx]; exact b
  refine ⟨?_, all h.to h1, all h.sg h2, all h.ln h3, all h.wd h4⟩
  rw [List.map_append, List.nodup_append]
  exact ⟨h.nd, by simp, fun a ha b hb e => hk (by rw [List.map_singleton, List.mem_singleton] at hb; rw [← hb, ← e]; exact ha)⟩
theorem ROk.setR {ls ws : List Str} {n : Nat} {r : List Zs} (h : ROk ls ws n r) {k : Ky} {t : Nat} (ht : t < n) : ROk ls ws n (setR r k t) := by
  have all : ∀ {p : Zs → Prop}, (∀ x ∈ r, p x) → (∀ x, p x → p { x with to := t }) → ∀ x ∈ LW.setR r k t, p x := fun a b x hx => by
    obtain ⟨y, hy, rfl⟩ := List.mem_map.mp hx
    split
    · exact b y (a y hy)
    · exact a y hy
  exact ⟨by rw [setR_key]; exact h.nd, all h.to fun _ _ => ht, all h.sg fun _ z => z, all h.ln fun _ z => z, all h.wd fun _ z => z⟩
theorem rl_new {r : List Zs} {sg a b : Str} {t : Nat} (h : (sg, a, b) ∉ r.map Zs.key) : dPut (dcD kyD (rl r)) (kyN (sg, a, b)) (.tup [.str sg, .str a, .str b]) (.int ((t : Nat) : Int)) = dcD kyD (rl (r ++ [⟨sg, a, b, t⟩])) := by
  refine (dPut_new nk_ky kyN_inj (k := (sg, a, b)) (fun p hp e => ?_) _).trans ?_
  · obtain ⟨s, hs, rfl⟩ := List.mem_map.mp hp
    exact h (e ▸ List.mem_map_of_mem hs)
  · simp [rl, Zs.key]
theorem rl_old {r : List Zs} {sg a b : Str} {t : Nat} (h : (sg, a, b) ∈ r.map Zs.key) : dPut (dcD kyD (rl r)) (kyN (sg, a, b)) (.tup [.str sg, .str a, .str b]) (.int ((t : Nat) : Int)) = dcD kyD (rl (setR r (sg, a, b) t)) := by
  refine (dPut_old nk_ky kyN_inj (k := (sg, a, b)) ?_ _).trans ?_
  · obtain ⟨s, hs, e⟩ := List.mem_map.mp h
    exact ⟨_, List.mem_map_of_mem hs, e⟩
  · congr 1
    simp only [rl, setR, List.map_map]
    refine List.map_congr_left fun s _ => ?_
    simp only [Function.comp]
    split
    · rfl
    · rfl
theorem rl_len (r : List Zs) : (dcD kyD (rl r)).length = r.length := by simp [rl]
theorem dKey_ky (k : Ky) : dKey 2 (kyD k) = some (kyN k) := by
  unfold dKey
  simp only [nk_ky, Option.bind_some]
  rfl
theorem rl_items (r : List Zs) : (dcD kyD (rl r)).map (fun p => D.tup [p.1, p.2]) = r.map fun s => .tup [kyD s.key, .int ((s.to : Nat) : Int)] := by
  simp only [dcD, rl, List.map_map]; rfl
theorem setR_len (r : List Zs) (k : Ky) (t : Nat) : (setR r k t).length = r.length := by simp [setR]
theorem room_steps_spec {n : Nat} {m : Mint} (h : MOk n m) (hn : n < 2 ^ 29) {count : Nat} (c0 : 0 < count) (c1 : count < 100) {ls ws : List Str} (l0 : 0 < ls.length) (l1 : ls.length ≤ 100) (w0 : 0 < ws.length) (w1 : ws.length ≤ 100) {b : Bool} :
    Tk F_l_room_steps [mtB m, some (.fz (.int ((count : Nat) : Int))), some (.fz (.lst (ls.map D.str))), some (.fz (.lst (ws.map D.str))), some (.fz (.bl b))] (fun v e => ∃ (r : List Zs) (m' : Mint), v = .fr (roomD r) ∧ ROk ls ws count r ∧ r.length ≤ 3 ∧ MOk (n + 20) m' ∧ e = [mtB m', none, none, none, none]) NX := by
  unfold F_l_room_steps pg_l_room_steps
  simp! only [ixU, rng2, slD, inU, notInU]
  refine Tk.mono' (coin_spec h (by omega) (by omega) (by omega)) ?_; rintro _ _ ⟨way, m1, rfl, way0, way1, h1, rfl⟩
  simp! only [ixU, rng2, slD, inU, notInU]
  refine Bif.mkd (fun hw => ?_) (fun hw => ?_)
  · have h2 := h1.up (show n + 1 ≤ n + 2 by omega)
    have rk := rng_of' (j := 0) (by omega) (by omega)
    have j0 : (0 : Int) ≤ 0 := by omega
    have j3 : (0 : Int) ≤ 3 := by omega
    simp! only [ixU, rng2, slD, inU, notInU, rk]
    refine Fr.inv (List.range ((0 : Int)).toNat) (fun pre e => ∃ (m' : Mint) (r : List Zs) (o5 o8 o9 o10 : Option Bnd), ROk ls ws count r ∧ r.length ≤ pre.length ∧ MOk (n + 2 + 5 * pre.length) m' ∧ ioo (some o5) = false ∧ ioo (some o8) = false ∧ ioo (some o9) = false ∧ ioo (some o10) = false ∧
        e = [mtB m', some (.fz (.int ((count : Nat) : Int))), some (.fz (.lst (ls.map D.str))), some (.fz (.lst (ws.map D.str))), some (.fz (.bl b)), o5, some (.fz (.int way)), some (.own (.dct 2 (dcD kyD (rl r)))), o8, o9, o10, none, none])
        ⟨m1, [], none, none, none, none, ROk.nil, Nat.le_refl _, h2, rfl, rfl, rfl, rfl, rfl⟩ ?_ ?_
    · rintro pre x post e hx ⟨m', r, o5, o8, o9, o10, hr, hrl, hm, i5, i8, i9, i10, rfl⟩
      have hpl : pre.length < 3 := by
        have := congrArg List.length hx
        simp at this <;> omega
      cases b with
      | true =>
        obtain ⟨sg, hs1, hsg⟩ := ix_and way0 way1
        simp! only [rng1, rng2, slD, inU, notInU, i5, i8, hs1]
        have ck : ((ls.map D.str).length : Nat) = ls.length := List.length_map _
        have ck2 : ((ws.map D.str).length : Nat) = ws.length := List.length_map _
        simp! only [ixU, rng1, rng2, slD, inU, notInU, i9, i10, ck, ck2]
        refine Tk.mono' (coin_spec hm (by omega) (by omega) (by omega)) ?_; rintro _ _ ⟨u, m5, rfl, u0, u1, h5, rfl⟩
        obtain ⟨ln, hln, hl1⟩ := ix_strs (ls := ls) u0 (by omega)
        simp! only [rng1, rng2, slD, inU, notInU, hl1, ck, ck2]
        refine Tk.mono' (coin_spec h5 (by omega) (by omega) (by omega)) ?_; rintro _ _ ⟨z, m6, rfl, z0, z1, h6, rfl⟩
        obtain ⟨wd, hwd, hw1⟩ := ix_strs (ls := ws) z0 (by omega)
        simp! only [rng1, rng2, slD, inU, notInU, hw1, i9, i10]
        refine Tk.mono' (coin_spec h6 (by omega) (by omega) (by omega)) ?_; rintro _ _ ⟨t, m7, rfl, t0, t1, h7, rfl⟩
        obtain ⟨t', rfl⟩ : ∃ t' : Nat, t = ((t' : Nat) : Int) := ⟨t.toNat, by omega⟩
        have q0 : dKey 2 (.tup [.str sg, .str ln, .str wd]) = some (kyN (sg, ln, wd)) := dKey_ky (sg, ln, wd)
        have qr : (dcD kyD (rl r)).length = r.length := rl_len r
        by_cases hk : (sg, ln, wd) ∈ r.map Zs.key
        · have q3 := rl_old (t := t') hk
          simp! only [ixU, rng1, rng2, slD, inU, notInU, q0, q3, qr]
          refine ⟨by omega, m7, setR r (sg, ln, wd) t', _, _, _, _, hr.setR (by omega), by rw [setR_len, List.length_append]; omega, ?_, rfl, rfl, rfl, rfl, rfl⟩
          exact h7.up (by rw [List.length_append]; simp; omega)
        · have q3 := rl_new (t := t') hk
          simp! only [ixU, rng1, rng2, slD, inU, notInU, q0, q3, qr]
          refine ⟨by omega, m7, r ++ [⟨sg, ln, wd, t'⟩], _, _, _, _, hr.snoc (s := ⟨sg, ln, wd, t'⟩) hk (show t' < count by omega) hsg hln hwd, by simp; omega, ?_, rfl, rfl, rfl, rfl, rfl⟩
          exact h7.up (by rw [List.length_append]; simp; omega)
      | false =>
        simp! only [rng1, rng2, slD, inU, notInU, i5]
        refine Tk.mono' (coin_spec hm (by omega) (by omega) (by omega)) ?_; rintro _ _ ⟨y, m3, rfl, y0, y1, h3, rfl⟩
        simp! only [rng1, rng2, slD, inU, notInU]
        refine Bif.mkd (fun hy => ?_) (fun hy => ?_)
        · obtain ⟨sg, hs1, hsg⟩ := ix_and way0 way1
          simp! only [rng1, rng2, slD, inU, notInU, i8, hs1]
          have ck : ((ls.map D.str).length : Nat) = ls.length := List.length_map _
          have ck2 : ((ws.map D.str).length : Nat) = ws.length := List.length_map _
          simp! only [ixU, rng1, rng2, slD, inU, notInU, i9, i10, ck, ck2]
          refine Tk.mono' (coin_spec h3 (by omega) (by omega) (by omega)) ?_; rintro _ _ ⟨u, m5, rfl, u0, u1, h5, rfl⟩
          obtain ⟨ln, hln, hl1⟩ := ix_strs (ls := ls) u0 (by omega)
          simp! only [rng1, rng2, slD, inU, notInU, hl1, ck, ck2]
          refine Tk.mono' (coin_spec h5 (by omega) (by omega) (by omega)) ?_; rintro _ _ ⟨z, m6, rfl, z0, z1, h6, rfl⟩
          obtain ⟨wd, hwd, hw1⟩ := ix_strs (ls := ws) z0 (by omega)
          simp! only [rng1, rng2, slD, inU, notInU, hw1, i9, i10]
          refine Tk.mono' (coin_spec h6 (by omega) (by omega) (by omega)) ?_; rintro _ _ ⟨t, m7, rfl, t0, t1, h7, rfl⟩
          obtain ⟨t', rfl⟩ : ∃ t' : Nat, t = ((t' : Nat) : Int) := ⟨t.toNat, by omega⟩
          have q0 : dKey 2 (.tup [.str sg, .str ln, .str wd]) = some (kyN (sg, ln, wd)) := dKey_ky (sg, ln, wd)
          have qr : (dcD kyD (rl r)).length = r.length := rl_len r
          by_cases hk : (sg, ln, wd) ∈ r.map Zs.key
          · have q3 := rl_old (t := t') hk
            simp! only [ixU, rng1, rng2, slD, inU, notInU, q0, q3, qr]
            refine ⟨by omega, m7, setR r (sg, ln, wd) t', _, _, _, _, hr.setR (by omega), by rw [setR_len, List.length_append]; omega, ?_, rfl, rfl, rfl, rfl, rfl⟩
            exact h7.up (by rw [List.length_append]; simp; omega)
          · have q3 := rl_new (t := t') hk
            simp! only [ixU, rng1, rng2, slD, inU, notInU, q0, q3, qr]
            refine ⟨by omega, m7, r ++ [⟨sg, ln, wd, t'⟩], _, _, _, _, hr.snoc (s := ⟨sg, ln, wd, t'⟩) hk (show t' < count by omega) hsg hln hwd, by simp; omega, ?_, rfl, rfl, rfl, rfl, rfl⟩
            exact h7.up (by rw [List.length_append]; simp; omega)
        · simp! only [rng1, rng2, slD, inU, notInU]
          refine Tk.mono' (coin_spec h3 (by omega) (by omega) (by omega)) ?_; rintro _ _ ⟨y', m4, rfl, y'0, y'1, h4, rfl⟩
          obtain ⟨sg, hs1, hsg⟩ := ix_sg y'0 y'1
          simp! only [rng1, rng2, slD, inU, notInU, i8, hs1]
          have ck : ((ls.map D.str).length : Nat) = ls.length := List.length_map _
          have ck2 : ((ws.map D.str).length : Nat) = ws.length := List.length_map _
          simp! only [ixU, rng1, rng2, slD, inU, notInU, i9, i10, ck, ck2]
          refine Tk.mono' (coin_spec h4 (by omega) (by omega) (by omega)) ?_; rintro _ _ ⟨u, m5, rfl, u0, u1, h5, rfl⟩
          obtain ⟨ln, hln, hl1⟩ := ix_strs (ls := ls) u0 (by omega)
          simp! only [rng1, rng2, slD, inU, notInU, hl1, ck, ck2]
          refine Tk.mono' (coin_spec h5 (by omega) (by omega) (by omega)) ?_; rintro _ _ ⟨z, m6, rfl, z0, z1, h6, rfl⟩
          obtain ⟨wd, hwd, hw1⟩ := ix_strs (ls := ws) z0 (by omega)
          simp! only [rng1, rng2, slD, inU, notInU, hw1, i9, i10]
          refine Tk.mono' (coin_spec h6 (by omega) (by omega) (by omega)) ?_; rintro _ _ ⟨t, m7, rfl, t0, t1, h7, rfl⟩
          obtain ⟨t', rfl⟩ : ∃ t' : Nat, t = ((t' : Nat) : Int) := ⟨t.toNat, by omega⟩
          have q0 : dKey 2 (.tup [.str sg, .str ln, .str wd]) = some (kyN (sg, ln, wd)) := dKey_ky (sg, ln, wd)
          have qr : (dcD kyD (rl r)).length = r.length := rl_len r
          by_cases hk : (sg, ln, wd) ∈ r.map Zs.key
          · have q3 := rl_old (t := t') hk
            simp! only [ixU, rng1, rng2, slD, inU, notInU, q0, q3, qr]
            refine ⟨by omega, m7, setR r (sg, ln, wd) t', _, _, _, _, hr.setR (by omega), by rw [setR_len, List.length_append]; omega, ?_, rfl, rfl, rfl, rfl, rfl⟩
            exact h7.up (by rw [List.length_append]; simp; omega)
          · have q3 := rl_new (t := t') hk
            simp! only [ixU, rng1, rng2, slD, inU, notInU, q0, q3, qr]
            refine ⟨by omega, m7, r ++ [⟨sg, ln, wd, t'⟩], _, _, _, _, hr.snoc (s := ⟨sg, ln, wd, t'⟩) hk (show t' < count by omega) hsg hln hwd, by simp; omega, ?_, rfl, rfl, rfl, rfl, rfl⟩
            exact h7.up (by rw [List.length_append]; simp; omega)
    · rintro e ⟨m', r, o5, o8, o9, o10, hr, hrl, hm, i5, i8, i9, i10, rfl⟩
      rw [List.length_range] at hrl hm
      have qi := rl_items r
      simp! only [ixU, rng1, rng2, slD, inU, notInU, qi]
      refine ⟨by rw [List.length_map]; omega, Lr.mapT r (fun s => spD s) ?_ ?_⟩
      · intro s hs
        have k0 : ixU (kyD s.key) (.int 0) = some (.fz (.str s.sg)) := rfl
        have k1 : ixU (kyD s.key) (.int 1) = some (.fz (.str s.ln)) := rfl
        have k2 : ixU (kyD s.key) (.int 2) = some (.fz (.str s.wd)) := rfl
        simp! only [rng1, rng2, slD, inU, notInU, k0, k1, k2]
      · simp! only [ixU, rng1, rng2, slD, inU, notInU]
        exact ⟨r, m', rfl, hr, by omega, hm.up (by omega), rfl⟩
  · simp! only [ixU, rng2, slD, inU, notInU]
    refine Tk.mono' (coin_spec h1 (by omega) (by omega) (by omega)) ?_; rintro _ _ ⟨q, m2, rfl, q0, q1, h2, rfl⟩
    have j0 : 0 ≤ 1 + q := by omega
    have j3 : 1 + q ≤ 3 := by omega
    have rk := rng_of' (j := 1 + q) (by omega) (by omega)
    simp! only [ixU, rng2, slD, inU, notInU, rk]
    refine Fr.inv (List.range (1 + q).toNat) (fun pre e => ∃ (m' : Mint) (r : List Zs) (o5 o8 o9 o10 : Option Bnd), ROk ls ws count r ∧ r.length ≤ pre.length ∧ MOk (n + 2 + 5 * pre.length) m' ∧ ioo (some o5) = false ∧ ioo (some o8) = false ∧ ioo (some o9) = false ∧ ioo (some o10) = false ∧
        e = [mtB m', some (.fz (.int ((count : Nat) : Int))), some (.fz (.lst (ls.map D.str))), some (.fz (.lst (ws.map D.str))), some (.fz (.bl b)), o5, some (.fz (.int way)), some (.own (.dct 2 (dcD kyD (rl r)))), o8, o9, o10, none, none])
        ⟨m2, [], none, none, none, none, ROk.nil, Nat.le_refl _, h2, rfl, rfl, rfl, rfl, rfl⟩ ?_ ?_
    · rintro pre x post e hx ⟨m', r, o5, o8, o9, o10, hr, hrl, hm, i5, i8, i9, i10, rfl⟩
      have hpl : pre.length < 3 := by
        have := congrArg List.length hx
        simp at this <;> omega
      cases b with
      | true =>
        obtain ⟨sg, hs1, hsg⟩ := ix_and way0 way1
        simp! only [rng1, rng2, slD, inU, notInU, i5, i8, hs1]
        have ck : ((ls.map D.str).length : Nat) = ls.length := List.length_map _
        have ck2 : ((ws.map D.str).length : Nat) = ws.length := List.length_map _
        simp! only [ixU, rng1, rng2, slD, inU, notInU, i9, i10, ck, ck2]
        refine Tk.mono' (coin_spec hm (by omega) (by omega) (by omega)) ?_; rintro _ _ ⟨u, m5, rfl, u0, u1, h5, rfl⟩
        obtain ⟨ln, hln, hl1⟩ := ix_strs (ls := ls) u0 (by omega)
        simp! only [rng1, rng2, slD, inU, notInU, hl1, ck, ck2]
        refine Tk.mono' (coin_spec h5 (by omega) (by omega) (by omega)) ?_; rintro _ _ ⟨z, m6, rfl, z0, z1, h6, rfl⟩
        obtain ⟨wd, hwd, hw1⟩ := ix_strs (ls := ws) z0 (by omega)
        simp! only [rng1, rng2, slD, inU, notInU, hw1, i9, i10]
        refine Tk.mono' (coin_spec h6 (by omega) (by omega) (by omega)) ?_; rintro _ _ ⟨t, m7, rfl, t0, t1, h7, rfl⟩
        obtain ⟨t', rfl⟩ : ∃ t' : Nat, t = ((t' : Nat) : Int) := ⟨t.toNat, by omega⟩
        have q0 : dKey 2 (.tup [.str sg, .str ln, .str wd]) = some (kyN (sg, ln, wd)) := dKey_ky (sg, ln, wd)
        have qr : (dcD kyD (rl r)).length = r.length := rl_len r
        by_cases hk : (sg, ln, wd) ∈ r.map Zs.key
        · have q3 := rl_old (t := t') hk
          simp! only [ixU, rng1, rng2, slD, inU, notInU, q0, q3, qr]
          refine ⟨by omega, m7, setR r (sg, ln, wd) t', _, _, _, _, hr.setR (by omega), by rw [setR_len, List.length_append]; omega, ?_, rfl, rfl, rfl, rfl, rfl⟩
          exact h7.up (by rw [List.length_append]; simp; omega)
        · have q3 := rl_new (t := t') hk
          simp! only [ixU, rng1, rng2, slD, inU, notInU, q0, q3, qr]
          refine ⟨by omega, m7, r ++ [⟨sg, ln, wd, t'⟩], _, _, _, _, hr.snoc (s := ⟨sg, ln, wd, t'⟩) hk (show t' < count by omega) hsg hln hwd, by simp; omega, ?_, rfl, rfl, rfl, rfl, rfl⟩
          exact h7.up (by rw [List.length_append]; simp; omega)
      | false =>
        simp! only [rng1, rng2, slD, inU, notInU, i5]
        refine Tk.mono' (coin_spec hm (by omega) (by omega) (by omega)) ?_; rintro _ _ ⟨y, m3, rfl, y0, y1, h3, rfl⟩
        simp! only [rng1, rng2, slD, inU, notInU]
        refine Bif.mkd (fun hy => ?_) (fun hy => ?_)
        · obtain ⟨sg, hs1, hsg⟩ := ix_and way0 way1
          simp! only [rng1, rng2, slD, inU, notInU, i8, hs1]
          have ck : ((ls.map D.str).length : Nat) = ls.length := List.length_map _
          have ck2 : ((ws.map D.str).length : Nat) = ws.length := List.length_map _
          simp! only [ixU, rng1, rng2, slD, inU, notInU, i9, i10, ck, ck2]
          refine Tk.mono' (coin_spec h3 (by omega) (by omega) (by omega)) ?_; rintro _ _ ⟨u, m5, rfl, u0, u1, h5, rfl⟩
          obtain ⟨ln, hln, hl1⟩ := ix_strs (ls := ls) u0 (by omega)
          simp! only [rng1, rng2, slD, inU, notInU, hl1, ck, ck2]
          refine Tk.mono' (coin_spec h5 (by omega) (by omega) (by omega)) ?_; rintro _ _ ⟨z, m6, rfl, z0, z1, h6, rfl⟩
          obtain ⟨wd, hwd, hw1⟩ := ix_strs (ls := ws) z0 (by omega)
          simp! only [rng1, rng2, slD, inU, notInU, hw1, i9, i10]
          refine Tk.mono' (coin_spec h6 (by omega) (by omega) (by omega)) ?_; rintro _ _ ⟨t, m7, rfl, t0, t1, h7, rfl⟩
          obtain ⟨t', rfl⟩ : ∃ t' : Nat, t = ((t' : Nat) : Int) := ⟨t.toNat, by omega⟩
          have q0 : dKey 2 (.tup [.str sg, .str ln, .str wd]) = some (kyN (sg, ln, wd)) := dKey_ky (sg, ln, wd)
          have qr : (dcD kyD (rl r)).length = r.length := rl_len r
          by_cases hk : (sg, ln, wd) ∈ r.map Zs.key
          · have q3 := rl_old (t := t') hk
            simp! only [ixU, rng1, rng2, slD, inU, notInU, q0, q3, qr]
            refine ⟨by omega, m7, setR r (sg, ln, wd) t', _, _, _, _, hr.setR (by omega), by rw [setR_len, List.length_append]; omega, ?_, rfl, rfl, rfl, rfl, rfl⟩
            exact h7.up (by rw [List.length_append]; simp; omega)
          · have q3 := rl_new (t := t') hk
            simp! only [ixU, rng1, rng2, slD, inU, notInU, q0, q3, qr]
            refine ⟨by omega, m7, r ++ [⟨sg, ln, wd, t'⟩], _, _, _, _, hr.snoc (s := ⟨sg, ln, wd, t'⟩) hk (show t' < count by omega) hsg hln hwd, by simp; omega, ?_, rfl, rfl, rfl, rfl, rfl⟩
            exact h7.up (by rw [List.length_append]; simp; omega)
        · simp! only [rng1, rng2, slD, inU, notInU]
          refine Tk.mono' (coin_spec h3 (by omega) (by omega) (by omega)) ?_; rintro _ _ ⟨y', m4, rfl, y'0, y'1, h4, rfl⟩
          obtain ⟨sg, hs1, hsg⟩ := ix_sg y'0 y'1
          simp! only [rng1, rng2, slD, inU, notInU, i8, hs1]
          have ck : ((ls.map D.str).length : Nat) = ls.length := List.length_map _
          have ck2 : ((ws.map D.str).length : Nat) = ws.length := List.length_map _
          simp! only [ixU, rng1, rng2, slD, inU, notInU, i9, i10, ck, ck2]
          refine Tk.mono' (coin_spec h4 (by omega) (by omega) (by omega)) ?_; rintro _ _ ⟨u, m5, rfl, u0, u1, h5, rfl⟩
          obtain ⟨ln, hln, hl1⟩ := ix_strs (ls := ls) u0 (by omega)
          simp! only [rng1, rng2, slD, inU, notInU, hl1, ck, ck2]
          refine Tk.mono' (coin_spec h5 (by omega) (by omega) (by omega)) ?_; rintro _ _ ⟨z, m6, rfl, z0, z1, h6, rfl⟩
          obtain ⟨wd, hwd, hw1⟩ := ix_strs (ls := ws) z0 (by omega)
          simp! only [rng1, rng2, slD, inU, notInU, hw1, i9, i10]
          refine Tk.mono' (coin_spec h6 (by omega) (by omega) (by omega)) ?_; rintro _ _ ⟨t, m7, rfl, t0, t1, h7, rfl⟩
          obtain ⟨t', rfl⟩ : ∃ t' : Nat, t = ((t' : Nat) : Int) := ⟨t.toNat, by omega⟩
          have q0 : dKey 2 (.tup [.str sg, .str ln, .str wd]) = some (kyN (sg, ln, wd)) := dKey_ky (sg, ln, wd)
          have qr : (dcD kyD (rl r)).length = r.length := rl_len r
          by_cases hk : (sg, ln, wd) ∈ r.map Zs.key
          · have q3 := rl_old (t := t') hk
            simp! only [ixU, rng1, rng2, slD, inU, notInU, q0, q3, qr]
            refine ⟨by omega, m7, setR r (sg, ln, wd) t', _, _, _, _, hr.setR (by omega), by rw [setR_len, List.length_append]; omega, ?_, rfl, rfl, rfl, rfl, rfl⟩
            exact h7.up (by rw [List.length_append]; simp; omega)
          · have q3 := rl_new (t := t') hk
            simp! only [ixU, rng1, rng2, slD, inU, notInU, q0, q3, qr]
            refine ⟨by omega, m7, r ++ [⟨sg, ln, wd, t'⟩], _, _, _, _, hr.snoc (s := ⟨sg, ln, wd, t'⟩) hk (show t' < count by omega) hsg hln hwd, by simp; omega, ?_, rfl, rfl, rfl, rfl, rfl⟩
            exact h7.up (by rw [List.length_append]; simp; omega)
    · rintro e ⟨m', r, o5, o8, o9, o10, hr, hrl, hm, i5, i8, i9, i10, rfl⟩
      rw [List.length_range] at hrl hm
      have qi := rl_items r
      simp! only [ixU, rng1, rng2, slD, inU, notInU, qi]
      refine ⟨by rw [List.length_map]; omega, Lr.mapT r (fun s => spD s) ?_ ?_⟩
      · intro s hs
        have k0 : ixU (kyD s.key) (.int 0) = some (.fz (.str s.sg)) := rfl
        have k1 : ixU (kyD s.key) (.int 1) = some (.fz (.str s.ln)) := rfl
        have k2 : ixU (kyD s.key) (.int 2) = some (.fz (.str s.wd)) := rfl
        simp! only [rng1, rng2, slD, inU, notInU, k0, k1, k2]
      · simp! only [ixU, rng1, rng2, slD, inU, notInU]
        exact ⟨r, m', rfl, hr, by omega, hm.up (by omega), rfl⟩
end LW
namespace LW
open PySem PySem.Spec PyProof.Rows L2 VE SV
def txN (s : Str) : NK := .text s
theorem nk_str (s : Str) : nkD (.str s) = some (txN s) := by simp [nkD, txN]
theorem setOk_str {l : List Str} (h : l.length < 64) : setOk (l.map D.str) = some (l.map txN) := by
  unfold setOk
  rw [nkDs_map nk_str, Option.bind_some, if_pos]
  refine ⟨?_, by rw [List.length_map]; exact h⟩
  unfold kindOk
  have : ((l.map txN).all fun k => (nkKey k).isSome) = true := by
    rw [List.all_eq_true]
    intro k hk
    obtain ⟨x, _, rfl⟩ := List.mem_map.mp hk
    rfl
  rw [this, Bool.true_or]
abbrev many (l : List Str) : Nat := (ddup (l.map txN)).length
theorem gls_str {l : List Str} (h : l.length < 64) : gLenSet (l.map D.str) = some (.fz (.int ((many l : Nat) : Int))) := by
  unfold gLenSet; rw [setOk_str h]; rfl
theorem ddup_sub {α : Type} [DecidableEq α] : ∀ {l : List α}, ∀ x ∈ ddup l, x ∈ l
  | [], x, h => h
  | y :: l, x, h => by
    unfold ddup at h
    split at h
    · exact List.mem_cons_of_mem _ (ddup_sub x h)
    · rcases List.mem_cons.mp h with h | h
      · rw [h]; exact List.mem_cons_self
      · exact List.mem_cons_of_mem _ (ddup_sub x h)
theorem texts_of : ∀ {ks : List NK}, (∀ k ∈ ks, ∃ s, k = txN s) → ∃ ss : List Str, ks.map unk = ss.map D.str ∧ ss.length = ks.length
  | [], _ => ⟨[], rfl, rfl⟩
  | k :: ks, h => by
    obtain ⟨s, rfl⟩ := h k List.mem_cons_self
    obtain ⟨ss, h1, h2⟩ := texts_of (ks := ks) fun x hx => h x (List.mem_cons_of_mem _ hx)
    exact ⟨s :: ss, by rw [List.map_cons, List.map_cons, h1]; rfl, by simp [h2]⟩
theorem gss_str {l : List Str} (h : l.length < 64) : ∃ ss : List Str, gSortSet (l.map D.str) = some (.fr (.lst (ss.map D.str))) ∧ ss.length = many l := by
  have hp : (sortK (ddup (l.map txN))).Perm (ddup (l.map txN)) := List.mergeSort_perm _ _
  obtain ⟨ss, h1, h2⟩ := texts_of (ks := sortK (ddup (l.map txN))) fun k hk => by
    obtain ⟨s, _, e⟩ := List.mem_map.mp (ddup_sub k (hp.mem_iff.mp hk))
    exact ⟨s, e.symm⟩
  refine ⟨ss, ?_, by rw [h2, hp.length_eq]⟩
  unfold gSortSet
  rw [setOk_str h, Option.bind_some, if_pos, h1]
  have e : (l.map txN).map NestedKey.data = l.map PyData.str := by
    rw [List.map_map]
    refine List.map_congr_left fun s _ => ?_
    simp [Function.comp, txN, NestedKey.data]
  rw [e]
  unfold sortOk
  have a1 : ((l.map PyData.str).all fun p => (l.map PyData.str).all fun q => PySem.W.alike p q) = true := by
    rw [List.all_eq_true]; intro p hp
    obtain ⟨s, _, rfl⟩ := List.mem_map.mp hp
    rw [List.all_eq_true]; intro q hq
    obtain ⟨t, _, rfl⟩ := List.mem_map.mp hq
    simp [PySem.W.alike]
  have a2 : (l.map PyData.str).all noTup = true := by
    rw [List.all_eq_true]; intro p hp
    obtain ⟨s, _, rfl⟩ := List.mem_map.mp hp
    rfl
  have a3 : ((l.map PyData.str).all fun p => decide (p.depth ≤ 20)) = true := by
    rw [List.all_eq_true]; intro p hp
    obtain ⟨s, _, rfl⟩ := List.mem_map.mp hp
    simp [PyData.depth]
  rw [a1, a2, a3, Bool.or_true]; rfl
def lnsOf (M : Plan) : List Str := M.flatMap fun r => r.map (·.ln)
def uni (l : List Str) : Bool := decide (many l < 2)
def plB (M : Plan) : Bool := (M.all fun r => uni (r.map (·.sg))) && uni (lnsOf M)
end LW
namespace LW
open PySem PySem.Spec PyProof.Rows L2 VE SV
local macro_rules | `(tactic| simp! only [$as,*]) => `(tactic| simp -dsimp only [Tk_bind, Tk_pure, Tk_none, Tk_xc, Tk_xv, Tk_xf, Tk_xm, Tk_frz, Tk_x2, Tk_x1, Tk_bt, Tk_bAnd, Tk_bOr, Tk_bNot, Tk_xAnd, Tk_xOr, Tk_xNot, Tk_xIf, Tk_aNil, Tk_aCons, Tk_xTup, Tk_xLst, Tk_xB, Tk_xSet, Tk_oNone, Tk_oSome, Tk_xSl, Tk_xChain, Ts_sNil, Ts_sBrk, Ts_sCnt, Ts_sSeq, Ts_sDrop, Ts_sRet, Ts_sRetN, Ts_sIf, Ts_sSet, Ts_sAsg, Ts_sPar, Ts_sPar3, Ts_sFor, Ts_sWhile, Ts_sRaise, Sq, Tk_itN, itnO_own, Ts_sForO, Tk_itD, Tk_itR1, Tk_itR2, Tk_itE, Tk_itZ, Tk_callE, Tk_xdef, Tk_xNam, Tk_xMk, Tk_aRecv, Tk_xMeth, Tk_xProp, Tk_xFld, Tk_two, Tk_lenO, Tk_xOpO, Tk_xIsI, Tk_xDn, Tk_xDisp1, Tk_xJoin, Tk_xEv, Tk_xIsE, Tk_bYes, Tk_xMut, Ts_stU, Ts_sStU, Ts_sFldE, Ts_sTry, Ts_sSetE, Tk_semF, Tk_xLc, Bif_t, Bif_f, So_some, So_none, So_map, So_bind, So_ite, So_ite', rdv, xfk, xmk, frv, bov, nfr, inv1, fzo, itv, enuv, zipv, ncal, xcal, lastI, nmk, xmkx, fldv, natv, one1, Stu, owE, fldk, Tryk, endk, turn, Tg, endO, mapO, restO, ownB, itemsO_t, itemsO_f, deref, derefs, fzs, stow_fz, stow_fr, ioo_none, ioo_fz, ioo_own, ioo_io, argsE, backE, bors, ioB, Bnd.d, Bnd.put, Bnd.ow, putE, ownL, ownD, wipeE, restE, okV, gN, gsN, gsC, gT, flatD, noBox, open_, opens, openV, pick, isIns, intsV, Tg_gN, Int.cast_ofNat_Int, Int.natCast_zero, Int.natCast_one, eqB_int, eqB_str, eqB_bl, joinD, opens_str, opens_str', nobox_str, nobox_str', opens_int, opens_int', nobox_int, nobox_int', opens_bl, opens_bl', nobox_bl, nobox_bl', addD, subD, mulD, mulU, divD, modD, powD, andD, cmpD, ltD, gtD, leD, geD, eqD, neD, isD, isntD, VE.isNon, ixD, lenU, lenD, VE.intD, absD, max2D, min2D, listD, tupleD, boolsD, anyD, allD, negD, List.getElem?_cons_zero, List.getElem?_cons_succ, List.getElem?_nil, List.length_cons, List.length_nil, List.set_cons_zero, List.set_cons_succ, List.set_nil, List.cons_append, List.nil_append, List.append_nil, List.replicate_succ, List.replicate_zero, List.all_cons, List.all_nil, List.map_cons, List.map_nil, List.any_cons, List.any_nil, List.getLast?_cons_cons, List.getLast?_singleton, List.dropLast_cons₂, List.dropLast_singleton, List.getD_cons_zero, List.getD_cons_succ, List.getD_nil, List.nodup_nil, List.nodup_cons, List.not_mem_nil, List.mem_cons, List.mem_singleton, Option.bind_some, Option.bind_none, Option.map_some, Option.map_none, id, Option.isSome_some, Option.isSome_none, and_true, true_and, and_self, and_false, false_and, or_true, true_or, or_false, false_or, not_true_eq_false, not_false_eq_true, if_true, if_false, ite_true, ite_false, reduceCtorEq, Bool.not_true, Bool.not_false, Bool.and_true, Bool.true_and, Bool.and_false, Bool.false_and, Bool.or_true, Bool.true_or, decide_true, decide_false, Bool.and_self, Bool.or_self, Bool.or_false, Bool.false_or, Bool.not_not, eq_self, forall_const, implies_true, Nat.reduceAdd, Nat.reduceSub, Nat.reduceMul, Nat.reduceLT, Nat.reduceLeDiff, Nat.reduceEqDiff, Nat.reduceBEq, Nat.reduceSucc, Int.reduceAdd, Int.reduceSub, Int.reduceMul, Int.reduceLT, Int.reduceLE, Int.reduceEq, Int.reduceNeg, Int.reduceToNat, Int.reduceNe, Nat.reduceGT, Int.reduceDiv, Int.reduceMod, Nat.zero_add, Nat.reduceDiv, Nat.reduceMod, $as,*])
theorem stpB_len {E : Nat → Nat → Bool} (p : List Nat × List Zs) (s : Zs) : (stpB E p s).2.length = p.2.length + 1 := by
  unfold stpB
  split <;> simp
theorem fold_len {E : Nat → Nat → Bool} : ∀ (l : List Zs) (p : List Nat × List Zs), (l.foldl (stpB E) p).2.length = p.2.length + l.length
  | [], p => rfl
  | s :: l, p => by rw [List.foldl_cons, fold_len l, stpB_len, List.length_cons]; omega
theorem roomB_len {E : Nat → Nat → Bool} {P : Plan} {o : List Nat} {a : Nat} : (roomB E P o a).2.length = (P.getD a []).length := by
  unfold roomB
  rw [fold_len, (srt_perm _).length_eq]; simp
theorem bfs_len {E : Nat → Nat → Bool} {P : Plan} : ∀ (n : Nat) (o : List Nat) (f : Plan), (bfs E P n o f).length ≤ f.length + n
  | 0, o, f => Nat.le_refl _
  | n + 1, o, f => by
    unfold bfs
    split
    · refine Nat.le_trans (bfs_len n _ _) ?_
      simp; omega
    · omega
theorem bfs_rooms {E : Nat → Nat → Bool} {P : Plan} {L : Nat} (h : ∀ a, (P.getD a []).length ≤ L) : ∀ (n : Nat) (o : List Nat) (f : Plan), (∀ r ∈ f, r.length ≤ L) → ∀ r ∈ bfs E P n o f, r.length ≤ L
  | 0, o, f, hf => hf
  | n + 1, o, f, hf => by
    unfold bfs
    split
    · refine bfs_rooms h n _ _ fun r hr => ?_
      rcases List.mem_append.mp hr with hr | hr
      · exact hf r hr
      · rw [List.mem_singleton.mp hr, roomB_len]; exact h _
    · exact hf
theorem least_len {P : Plan} : (least P).length ≤ P.length + 1 := by
  have := bfs_len (E := Eq' P) (P := P) (P.length + 1) [0] []
  rw [least_eq]; simpa using this
theorem least_rooms' {P : Plan} {L : Nat} (h : ∀ a, (P.getD a []).length ≤ L) : ∀ r ∈ least P, r.length ≤ L :=
  bfs_rooms h _ _ _ fun r hr => absurd hr (List.not_mem_nil)
theorem lns_le {L : Nat} : ∀ {M : Plan}, (∀ r ∈ M, r.length ≤ L) → (lnsOf M).length ≤ M.length * L
  | [], _ => by simp [lnsOf]
  | r :: M, h => by
    have h1 := lns_le (M := M) fun x hx => h x (List.mem_cons_of_mem _ hx)
    have h2 := h r List.mem_cons_self
    have e : (lnsOf (r :: M)).length = r.length + (lnsOf M).length := by simp [lnsOf]
    rw [e, List.length_cons, Nat.succ_mul]
    omega
structure Dr (P : Plan) : Prop where
  ok : POk P
  le : P.length ≤ 7
  rm : ∀ r ∈ P, r.length ≤ 3
theorem Dr.get {P : Plan} (h : Dr P) (a : Nat) : (P.getD a []).length ≤ 3 := by
  rw [List.getD_eq_getElem?_getD]
  cases hr : P[a]? with
  | none => simp
  | some r => exact h.rm r (List.mem_of_getElem? hr)
theorem Dr.lns {P : Plan} (h : Dr P) : (lnsOf (least P)).length < 64 := by
  have h1 := lns_le (M := least P) (least_rooms' h.get)
  have h2 := least_len (P := P)
  have := h.le
  omega
theorem Dr.lrm {P : Plan} (h : Dr P) : ∀ r ∈ least P, r.length < 64 := fun r hr => by
  have := least_rooms' h.get r hr
  omega
theorem Dr.lle {P : Plan} (h : Dr P) : (least P).length < 1000 := by
  have h2 := least_len (P := P)
  have := h.le
  omega
theorem Dr.of {P : Plan} {ls ws : List Str} (h0 : 0 < P.length) (h7 : P.length ≤ 7) (h : ∀ r ∈ P, ROk ls ws P.length r ∧ r.length ≤ 3) (gl : ∀ s ∈ ls, Good s) (gw : ∀ s ∈ ws, Good s) : Dr P := by
  refine ⟨⟨⟨fun r hr s hs => (h r hr).1.to s hs, fun r hr => (h r hr).1.nd⟩, fun e => by rw [e] at h0; exact absurd h0 (Nat.lt_irrefl _), by omega, fun r hr => by have := (h r hr).2; omega, fun r hr s hs => ⟨(h r hr).1.sg s hs, gl _ ((h r hr).1.ln s hs), gw _ ((h r hr).1.wd s hs)⟩⟩, h7, fun r hr => (h r hr).2⟩
theorem plan_of_spec {n : Nat} {m : Mint} (h : MOk n m) (hn : n < 2 ^ 28) {mo : Int} (mo1 : 1 ≤ mo) (mo7 : mo ≤ 7) {ls ws : List Str} (l0 : 0 < ls.length) (l1 : ls.length ≤ 100) (w0 : 0 < ws.length) (w1 : ws.length ≤ 100) (gl : ∀ s ∈ ls, Good s) (gw : ∀ s ∈ ws, Good s) {b : Bool} :
    Tk F_l_plan_of [mtB m, some (.fz (.int mo)), some (.fz (.lst (ls.map D.str))), some (.fz (.lst (ws.map D.str))), some (.fz (.bl b))] (fun v e => ∃ (P : Plan) (m' : Mint), v = .fr (planD P) ∧ Dr P ∧ MOk (n + 200) m' ∧ e = [mtB m', none, none, none, none]) NX := by
  unfold F_l_plan_of pg_l_plan_of
  simp! only [ixU, rng2, slD, inU, notInU]
  refine Tk.mono' (coin_spec h (by omega) (by omega) (by omega)) ?_; rintro _ _ ⟨c, m1, rfl, c0, c1, h1, rfl⟩
  obtain ⟨k, hk, k0, k7⟩ : ∃ k : Nat, 1 + c = ((k : Nat) : Int) ∧ 0 < k ∧ k ≤ 7 := ⟨(1 + c).toNat, by omega, by omega, by omega⟩
  have rk : rng1 [((k : Nat) : Int)] = some ((List.range k).map fun i => D.int ((i : Nat) : Int)) := rng_of (by omega)
  simp! only [ixU, rng2, slD, inU, notInU, hk, rk]
  refine ⟨by rw [List.length_map, List.length_range]; omega, Lr.inv (List.range k) (fun pre acc e => ∃ (P : Plan) (m' : Mint), acc = P.map roomD ∧ P.length = pre.length ∧ (∀ r ∈ P, ROk ls ws k r ∧ r.length ≤ 3) ∧ MOk (n + 1 + 20 * pre.length) m' ∧
    e = [mtB m', some (.fz (.int mo)), some (.fz (.lst (ls.map D.str))), some (.fz (.lst (ws.map D.str))), some (.fz (.bl b)), some (.fz (.int ((k : Nat) : Int))), none]) ⟨[], m1, rfl, rfl, fun r hr => absurd hr (List.not_mem_nil), h1, rfl⟩ ?_ ?_⟩
  · rintro pre x post acc e hx ⟨P, m', rfl, hl, hP, hm, rfl⟩
    have hlen : pre.length < k := by
      have := congrArg List.length hx
      simp at this
      omega
    refine ⟨rfl, ?_⟩
    simp! only [ixU, rng1, rng2, slD, inU, notInU]
    refine (room_steps_spec hm (by omega) k0 (by omega) l0 l1 w0 w1).mono' ?_
    rintro _ _ ⟨r, m2, rfl, hr, hr3, hm2, rfl⟩
    simp! only [ixU, rng1, rng2, slD, inU, notInU, opens_sp]
    refine ⟨P ++ [r], m2, by rw [List.map_append]; rfl, by simp [hl], fun r' hr' => ?_, ?_, rfl⟩
    · rcases List.mem_append.mp hr' with z | z
      · exact hP r' z
      · rw [List.mem_singleton.mp z]; exact ⟨hr, hr3⟩
    · exact hm2.up (by rw [List.length_append]; simp; omega)
  · rintro acc e ⟨P, m', rfl, hl, hP, hm, rfl⟩
    rw [List.length_range] at hl hm
    simp! only [ixU, rng1, rng2, slD, inU, notInU]
    exact ⟨P, m', rfl, .of (by omega) (by omega) (by rw [hl]; exact hP) gl gw, hm.up (by omega), rfl⟩
theorem made_spec {P : Plan} (h : Dr P) : Tk F_l_made_service [some (.fz (planD P))] (fun v e => v = .fz (svcP P) ∧ e = [none]) NX := by
  unfold F_l_made_service pg_l_made_service
  simp! only [ixU, rng1, rng2, slD, inU, notInU]
  have := h.le
  refine ⟨by rw [List.length_map]; omega, Lr.mapT P (fun r => roomD r) ?_ ?_⟩
  · intro r hr
    simp! only [ixU, rng1, rng2, slD, inU, notInU, opens_sp]
  · simp! only [ixU, rng1, rng2, slD, inU, notInU, opens_room]
    refine (init_ok h.ok).mono' ?_
    rintro _ _ ⟨rfl, rfl⟩
    simp! only [ixU, rng1, rng2, slD, inU, notInU, openF, open_, opens_tupR]
end LW
namespace LW
open PySem PySem.Spec PyProof.Rows L2 VE SV
local macro_rules | `(tactic| simp! only [$as,*]) => `(tactic| simp -dsimp only [Tk_bind, Tk_pure, Tk_none, Tk_xc, Tk_xv, Tk_xf, Tk_xm, Tk_frz, Tk_x2, Tk_x1, Tk_bt, Tk_bAnd, Tk_bOr, Tk_bNot, Tk_xAnd, Tk_xOr, Tk_xNot, Tk_xIf, Tk_aNil, Tk_aCons, Tk_xTup, Tk_xLst, Tk_xB, Tk_xSet, Tk_oNone, Tk_oSome, Tk_xSl, Tk_xChain, Ts_sNil, Ts_sBrk, Ts_sCnt, Ts_sSeq, Ts_sDrop, Ts_sRet, Ts_sRetN, Ts_sIf, Ts_sSet, Ts_sAsg, Ts_sPar, Ts_sPar3, Ts_sFor, Ts_sWhile, Ts_sRaise, Sq, Tk_itN, itnO_own, Ts_sForO, Tk_itD, Tk_itR1, Tk_itR2, Tk_itE, Tk_itZ, Tk_callE, Tk_xdef, Tk_xNam, Tk_xMk, Tk_aRecv, Tk_xMeth, Tk_xProp, Tk_xFld, Tk_two, Tk_lenO, Tk_xOpO, Tk_xIsI, Tk_xDn, Tk_xDisp1, Tk_xJoin, Tk_xEv, Tk_xIsE, Tk_bYes, Tk_xMut, Ts_stU, Ts_sStU, Ts_sFldE, Ts_sTry, Ts_sSetE, Tk_semF, Tk_xLc, Bif_t, Bif_f, So_some, So_none, So_map, So_bind, So_ite, So_ite', rdv, xfk, xmk, frv, bov, nfr, inv1, fzo, itv, enuv, zipv, ncal, xcal, lastI, nmk, xmkx, fldv, natv, one1, Stu, owE, fldk, Tryk, endk, turn, Tg, endO, mapO, restO, ownB, itemsO_t, itemsO_f, deref, derefs, fzs, stow_fz, stow_fr, ioo_none, ioo_fz, ioo_own, ioo_io, argsE, backE, bors, ioB, Bnd.d, Bnd.put, Bnd.ow, putE, ownL, ownD, wipeE, restE, okV, gN, gsN, gsC, gT, flatD, noBox, open_, opens, openV, pick, isIns, intsV, Tg_gN, Int.cast_ofNat_Int, Int.natCast_zero, Int.natCast_one, eqB_int, eqB_str, eqB_bl, joinD, opens_str, opens_str', nobox_str, nobox_str', opens_int, opens_int', nobox_int, nobox_int', opens_bl, opens_bl', nobox_bl, nobox_bl', addD, subD, mulD, mulU, divD, modD, powD, andD, cmpD, ltD, gtD, leD, geD, eqD, neD, isD, isntD, VE.isNon, ixD, lenU, lenD, VE.intD, absD, max2D, min2D, listD, tupleD, boolsD, anyD, allD, negD, List.getElem?_cons_zero, List.getElem?_cons_succ, List.getElem?_nil, List.length_cons, List.length_nil, List.set_cons_zero, List.set_cons_succ, List.set_nil, List.cons_append, List.nil_append, List.append_nil, List.replicate_succ, List.replicate_zero, List.all_cons, List.all_nil, List.map_cons, List.map_nil, List.any_cons, List.any_nil, List.getLast?_cons_cons, List.getLast?_singleton, List.dropLast_cons₂, List.dropLast_singleton, List.getD_cons_zero, List.getD_cons_succ, List.getD_nil, List.nodup_nil, List.nodup_cons, List.not_mem_nil, List.mem_cons, List.mem_singleton, Option.bind_some, Option.bind_none, Option.map_some, Option.map_none, id, Option.isSome_some, Option.isSome_none, and_true, true_and, and_self, and_false, false_and, or_true, true_or, or_false, false_or, not_true_eq_false, not_false_eq_true, if_true, if_false, ite_true, ite_false, reduceCtorEq, Bool.not_true, Bool.not_false, Bool.and_true, Bool.true_and, Bool.and_false, Bool.false_and, Bool.or_true, Bool.true_or, decide_true, decide_false, Bool.and_self, Bool.or_self, Bool.or_false, Bool.false_or, Bool.not_not, eq_self, forall_const, implies_true, Nat.reduceAdd, Nat.reduceSub, Nat.reduceMul, Nat.reduceLT, Nat.reduceLeDiff, Nat.reduceEqDiff, Nat.reduceBEq, Nat.reduceSucc, Int.reduceAdd, Int.reduceSub, Int.reduceMul, Int.reduceLT, Int.reduceLE, Int.reduceEq, Int.reduceNeg, Int.reduceToNat, Int.reduceNe, Nat.reduceGT, Int.reduceDiv, Int.reduceMod, Nat.zero_add, Nat.reduceDiv, Nat.reduceMod, $as,*])
theorem kept_at {K : Plan} {a : Nat} (h : a < K.length) : ixU (.tup (K.map tupR)) (.int ((a : Nat) : Int)) = some (.fz (tupR (K.getD a []))) := by
  rw [List.getD_eq_getElem?_getD, List.getElem?_eq_getElem h]
  exact ix_tup (List.getElem?_eq_getElem h)
theorem cut_take {α : Type} {f : α → D} {l : List α} {k : Int} (k0 : 0 ≤ k) : slD (.lst (l.map f)) none (some k) = some (.fr (.lst ((l.take k.toNat).map f))) := by
  have e : ((k.toNat : Nat) : Int) = k := by omega
  show some (Val.fr (.lst (VE.cutD (l.map f) none (some k)))) = _
  unfold VE.cutD
  rw [← e, HT.sIx_nat, HT.sIx_none, List.drop_zero, Nat.sub_zero, Int.toNat_natCast, List.map_take]
  congr 3
  rw [← List.take_eq_take_min]
theorem cut_drop' {α : Type} {f : α → D} {l : List α} {k : Int} (k0 : 0 ≤ k) : slD (.lst (l.map f)) (some k) none = some (.fr (.lst ((l.drop k.toNat).map f))) := by
  have e : ((k.toNat : Nat) : Int) = k := by omega
  show some (Val.fr (.lst (VE.cutD (l.map f) (some k) none))) = _
  unfold VE.cutD
  rw [← e, HT.sIx_nat, HT.sIx_none, Int.toNat_natCast, List.map_drop]
  congr 3
  by_cases z : k.toNat ≤ (l.map f).length
  · rw [Nat.min_eq_left z, List.take_of_length_le (by rw [List.length_drop]; exact Nat.le_refl _)]
  · rw [Nat.min_eq_right (by omega), List.drop_of_length_le (Nat.le_refl _), List.drop_of_length_le (by omega)]
    simp
theorem eqB_nilR {r : List Zs} (h : ∀ s ∈ r, KO s.key) : eqB (roomD r) (.lst []) = some (decide (r = [])) := by
  have hp : ∀ {l : List Zs}, (∀ s ∈ l, KO s.key) → pls (l.map spD) = true ∧ dpts (l.map spD) ≤ 1 := fun {l} => by
    induction l with
    | nil => intro _; exact ⟨by simp [pls], by simp [dpts]⟩
    | cons s l ih =>
      intro h
      obtain ⟨a, b⟩ := ih fun x hx => h x (List.mem_cons_of_mem _ hx)
      obtain ⟨h1, h2, h3⟩ := h s List.mem_cons_self
      have h1 : PyData.strOk s.sg = true := h1
      have h2 : PyData.strOk s.ln = true := h2
      have h3 : PyData.strOk s.wd = true := h3
      refine ⟨by rw [List.map_cons, pls, a]; simp [pl, pls, h1, h2, h3], ?_⟩
      rw [List.map_cons, dpts]
      have : dpt (spD s) = 1 := by simp [dpt, dpts]
      omega
  obtain ⟨a, b⟩ := hp h
  have inj : ∀ x y : List Zs, roomD x = roomD y → x = y := fun x y e => by
    simp only [D.lst.injEq] at e
    exact map_inj (fun a b e => by
      simp only [D.tup.injEq, List.cons.injEq, D.str.injEq, D.int.injEq] at e
      obtain ⟨h1, h2, h3, h4, _⟩ := e
      have : a.to = b.to := by omega
      cases a; cases b; simp_all) e
  exact eqB_enc roomD inj (a := r) (b := []) (by simp only [pl]; exact a) (by simp [pl, pls]) (by simp only [dpt]; omega) (by simp [dpt, dpts])
theorem next_room_spec {r : List Zs} {k : Ky} (hk : KO k) (hr : ∀ s ∈ r, KO s.key) : Tk F_next_room [some (.fz (tupR r)), some (.fz (kyD k))] (fun v e => v = .fz (optD (goR r k)) ∧ e = [none, none]) NX := by
  unfold F_next_room pg_next_room
  simp! only [ixU, rng1, rng2, slD, inU, notInU]
  refine Fr.inv r (fun pre e => ∃ (o2 o3 o4 o5 : Option Bnd), (∀ s ∈ pre, s.key ≠ k) ∧ ioo (some o2) = false ∧ ioo (some o3) = false ∧ ioo (some o4) = false ∧ ioo (some o5) = false ∧
    e = [some (.fz (tupR r)), some (.fz (kyD k)), o2, o3, o4, o5]) ⟨none, none, none, none, fun s hs => absurd hs (List.not_mem_nil), rfl, rfl, rfl, rfl, rfl⟩ ?_ ?_
  · rintro pre s post e hx ⟨o2, o3, o4, o5, hp, i2, i3, i4, i5, rfl⟩
    have q : eqB (.tup [.str s.sg, .str s.ln, .str s.wd]) (kyD k) = some (decide (s.key = k)) := eqB_ky (hr s (by rw [hx]; simp)) hk
    simp! only [ixU, rng1, rng2, slD, inU, notInU, i2, i3, i4, i5, q]
    refine Bif.mkd (fun h => ?_) (fun h => ?_)
    · have e1 : goR r k = some s.to := by
        unfold goR
        have hp' : pre.find? (fun s => decide (s.key = k)) = none := by
          rw [List.find?_eq_none]
          intro t ht
          rw [decide_eq_true_iff]
          exact hp t ht
        rw [hx, List.find?_append, hp']
        simp [h]
      simp! only [ixU, rng1, rng2, slD, inU, notInU, e1]
    · simp! only [ixU, rng1, rng2, slD, inU, notInU]
      refine ⟨some (.fz (.str s.sg)), some (.fz (.str s.ln)), some (.fz (.str s.wd)), some (.fz (.int ((s.to : Nat) : Int))), fun t ht => ?_, rfl, rfl, rfl, rfl, rfl⟩
      rcases List.mem_append.mp ht with ht | ht
      · exact hp t ht
      · rw [List.mem_singleton.mp ht]; exact h
  · rintro e ⟨o2, o3, o4, o5, hp, i2, i3, i4, i5, rfl⟩
    have e1 : goR r k = none := by
      unfold goR
      have : r.find? (fun s => decide (s.key = k)) = none := by
        rw [List.find?_eq_none]
        intro t ht
        rw [decide_eq_true_iff]
        exact hp t ht
      rw [this]; rfl
    simp! only [ixU, rng1, rng2, slD, inU, notInU, e1]
theorem lk0 (K : Plan) : List.lookup (α := Str) "" [("kept_rooms", D.tup (K.map tupR))] = none := rfl
theorem lk1 (K : Plan) : List.lookup (α := Str) "kept_rooms" [("kept_rooms", D.tup (K.map tupR))] = some (D.tup (K.map tupR)) := rfl
theorem lkH (K : Plan) : List.lookup (α := Str) "has" [("kept_rooms", D.tup (K.map tupR))] = none := rfl
noncomputable abbrev svcD (K : Plan) : D := .ins "Service" [("kept_rooms", .tup (K.map tupR))]
theorem tr_none {P : Plan} {a : Nat} {k : Ky} {row : List Ky} (g : go P a k = none) : tr P a (k :: row) = false := by rw [tr, g]
theorem has_io {K : Plan} {row : List Ky} (h : POk K) (hk : ∀ k ∈ row, KO k) : Tk F_Service_has [some (.fz (svcD K)), some (.io (.lst (row.map kyD)))] (fun v e => v = .fz (.bl (tr K 0 row)) ∧ e = [none, some (.io (.lst (row.map kyD)))]) NX := by
  unfold F_Service_has pg_Service_has
  have h0 := List.length_pos_iff.mpr h.ne
  simp! only [ixU, rng1, rng2, slD, inU, notInU, Ts_sForB, isIo_io, nobox_ky]
  refine FrO.inv row (fun pre e => ∃ (a : Nat) (o3 o4 o5 : Option Bnd), a < K.length ∧ (∀ post, tr K 0 (pre ++ post) = tr K a post) ∧ ioo (some o3) = false ∧ ioo (some o4) = false ∧ ioo (some o5) = false ∧
    e = [some (.fz (svcD K)), some (.io (.lst (row.map kyD))), some (.fz (.int ((a : Nat) : Int))), o3, o4, o5]) (fun pre e ⟨a, o3, o4, o5, _, _, _, _, _, z⟩ => by rw [z]; rfl) ⟨0, none, none, none, h0, fun _ => rfl, rfl, rfl, rfl, rfl⟩ ?_ ?_
  · rintro pre k post e hx ⟨a, o3, o4, o5, ha, ht, i3, i4, i5, rfl⟩
    have hkk := hk k (by rw [hx]; simp)
    have q1 := kept_at ha
    simp! only [rng1, rng2, slD, inU, notInU, i3, i4, i5, lk0, lk1, Option.isNone_none, q1]
    refine (next_room_spec (r := K.getD a []) hkk fun s hs => h.ko' hs).mono' ?_
    rintro _ _ ⟨rfl, rfl⟩
    cases hg : go K a k with
    | none =>
      have e1 : goR (K.getD a []) k = none := hg
      have e2 : tr K 0 row = false := by rw [hx, ht, tr_none hg]
      simp! only [ixU, rng1, rng2, slD, inU, notInU, e1, optD, e2]
    | some b =>
      have e1 : goR (K.getD a []) k = some b := hg
      simp! only [ixU, rng1, rng2, slD, inU, notInU, e1, optD]
      refine ⟨b, some (.fz (.str k.1)), some (.fz (.str k.2.1)), some (.fz (.str k.2.2)), go_lt h.wf hg, fun post' => ?_, rfl, rfl, rfl, rfl⟩
      rw [List.append_assoc, ht, List.singleton_append, tr_cons hg]
  · rintro e ⟨a, o3, o4, o5, ha, ht, i3, i4, i5, rfl⟩
    have e2 : tr K 0 row = true := by
      have := ht []
      rw [List.append_nil] at this
      rw [this]; rfl
    simp! only [ixU, rng1, rng2, slD, inU, notInU, e2]
theorem has_nil {K : Plan} (h : POk K) : Tk F_Service_has [some (.fz (svcD K)), some (.fz (.lst []))] (fun v e => v = .fz (.bl true) ∧ e = [none, none]) NX := by
  unfold F_Service_has pg_Service_has
  simp! only [ixU, rng1, rng2, slD, inU, notInU, Ts_sForB, isIo_fz, Fr_nil]
theorem has_row_io {P : Plan} {row : List Ky} (h : POk P) (hk : ∀ k ∈ row, KO k) : Tk F_l_has_row [some (.fz (planD P)), some (.io (.lst (row.map kyD)))] (fun v e => v = .fz (.bl (tr P 0 row)) ∧ e = [none, some (.io (.lst (row.map kyD)))]) NX := by
  unfold F_l_has_row pg_l_has_row
  have h0 := List.length_pos_iff.mpr h.ne
  simp! only [ixU, rng1, rng2, slD, inU, notInU, Ts_sForB, isIo_io, nobox_ky]
  refine FrO.inv row (fun pre e => ∃ (o : Option Nat) (o3 : Option Bnd), (∀ a, o = some a → a < P.length ∧ ∀ post, tr P 0 (pre ++ post) = tr P a post) ∧ (o = none → ∀ post, tr P 0 (pre ++ post) = false) ∧ ioo (some o3) = false ∧
    e = [some (.fz (planD P)), some (.io (.lst (row.map kyD))), some (.fz (optD o)), o3]) (fun pre e ⟨o, o3, _, _, _, z⟩ => by rw [z]; rfl) ⟨some 0, none, fun a e => (by cases e; exact ⟨h0, fun _ => rfl⟩), fun e => (by cases e), rfl, rfl⟩ ?_ ?_
  · rintro pre k post e hx ⟨o, o3, hs, hn, i3, rfl⟩
    have hkk := hk k (by rw [hx]; simp)
    cases o with
    | none =>
      simp! only [ixU, rng1, rng2, slD, inU, notInU, i3, optD]
      exact ⟨none, some (.fz (kyD k)), fun a e => (by cases e), fun _ post' => (by rw [List.append_assoc]; exact hn rfl _), rfl, rfl⟩
    | some a =>
      obtain ⟨ha, ht⟩ := hs a rfl
      have q1 := plan_at ha
      simp! only [rng1, rng2, slD, inU, notInU, i3, optD, q1]
      refine (goal_spec (r := P.getD a []) (h.wf.room a).1 hkk fun s hs => h.ko' hs).mono' ?_
      rintro _ _ ⟨rfl, rfl⟩
      simp! only [ixU, rng1, rng2, slD, inU, notInU]
      refine ⟨go P a k, some (.fz (kyD k)), fun b hb => ⟨go_lt h.wf hb, fun post' => ?_⟩, fun hb post' => ?_, rfl, rfl⟩
      · rw [List.append_assoc, ht, List.singleton_append, tr_cons hb]
      · rw [List.append_assoc, ht, List.singleton_append, tr_none hb]
  · rintro e ⟨o, o3, hs, hn, i3, rfl⟩
    cases o with
    | none =>
      have e2 : tr P 0 row = false := by have := hn rfl []; rwa [List.append_nil] at this
      simp! only [ixU, rng1, rng2, slD, inU, notInU, optD, e2]
    | some a =>
      have e2 : tr P 0 row = true := by
        have := (hs a rfl).2 []
        rw [List.append_nil] at this
        rw [this]; rfl
      simp! only [ixU, rng1, rng2, slD, inU, notInU, optD, e2]
end LW
namespace LW
open PySem PySem.Spec PyProof.Rows L2 VE SV
local macro_rules | `(tactic| simp! only [$as,*]) => `(tactic| simp -dsimp only [Tk_bind, Tk_pure, Tk_none, Tk_xc, Tk_xv, Tk_xf, Tk_xm, Tk_frz, Tk_x2, Tk_x1, Tk_bt, Tk_bAnd, Tk_bOr, Tk_bNot, Tk_xAnd, Tk_xOr, Tk_xNot, Tk_xIf, Tk_aNil, Tk_aCons, Tk_xTup, Tk_xLst, Tk_xB, Tk_xSet, Tk_oNone, Tk_oSome, Tk_xSl, Tk_xChain, Ts_sNil, Ts_sBrk, Ts_sCnt, Ts_sSeq, Ts_sDrop, Ts_sRet, Ts_sRetN, Ts_sIf, Ts_sSet, Ts_sAsg, Ts_sPar, Ts_sPar3, Ts_sFor, Ts_sWhile, Ts_sRaise, Sq, Tk_itN, itnO_own, Ts_sForO, Tk_itD, Tk_itR1, Tk_itR2, Tk_itE, Tk_itZ, Tk_callE, Tk_xdef, Tk_xNam, Tk_xMk, Tk_aRecv, Tk_xMeth, Tk_xProp, Tk_xFld, Tk_two, Tk_lenO, Tk_xOpO, Tk_xIsI, Tk_xDn, Tk_xDisp1, Tk_xJoin, Tk_xEv, Tk_xIsE, Tk_bYes, Tk_xMut, Ts_stU, Ts_sStU, Ts_sFldE, Ts_sTry, Ts_sSetE, Tk_semF, Tk_xLc, Bif_t, Bif_f, So_some, So_none, So_map, So_bind, So_ite, So_ite', rdv, xfk, xmk, frv, bov, nfr, inv1, fzo, itv, enuv, zipv, ncal, xcal, lastI, nmk, xmkx, fldv, natv, one1, Stu, owE, fldk, Tryk, endk, turn, Tg, endO, mapO, restO, ownB, itemsO_t, itemsO_f, deref, derefs, fzs, stow_fz, stow_fr, ioo_none, ioo_fz, ioo_own, ioo_io, argsE, backE, bors, ioB, Bnd.d, Bnd.put, Bnd.ow, putE, ownL, ownD, wipeE, restE, okV, gN, gsN, gsC, gT, flatD, noBox, open_, opens, openV, pick, isIns, intsV, Tg_gN, Int.cast_ofNat_Int, Int.natCast_zero, Int.natCast_one, eqB_int, eqB_str, eqB_bl, joinD, opens_str, opens_str', nobox_str, nobox_str', opens_int, opens_int', nobox_int, nobox_int', opens_bl, opens_bl', nobox_bl, nobox_bl', addD, subD, mulD, mulU, divD, modD, powD, andD, cmpD, ltD, gtD, leD, geD, eqD, neD, isD, isntD, VE.isNon, ixD, lenU, lenD, VE.intD, absD, max2D, min2D, listD, tupleD, boolsD, anyD, allD, negD, List.getElem?_cons_zero, List.getElem?_cons_succ, List.getElem?_nil, List.length_cons, List.length_nil, List.set_cons_zero, List.set_cons_succ, List.set_nil, List.cons_append, List.nil_append, List.append_nil, List.replicate_succ, List.replicate_zero, List.all_cons, List.all_nil, List.map_cons, List.map_nil, List.any_cons, List.any_nil, List.getLast?_cons_cons, List.getLast?_singleton, List.dropLast_cons₂, List.dropLast_singleton, List.getD_cons_zero, List.getD_cons_succ, List.getD_nil, List.nodup_nil, List.nodup_cons, List.not_mem_nil, List.mem_cons, List.mem_singleton, Option.bind_some, Option.bind_none, Option.map_some, Option.map_none, id, Option.isSome_some, Option.isSome_none, and_true, true_and, and_self, and_false, false_and, or_true, true_or, or_false, false_or, not_true_eq_false, not_false_eq_true, if_true, if_false, ite_true, ite_false, reduceCtorEq, Bool.not_true, Bool.not_false, Bool.and_true, Bool.true_and, Bool.and_false, Bool.false_and, Bool.or_true, Bool.true_or, decide_true, decide_false, Bool.and_self, Bool.or_self, Bool.or_false, Bool.false_or, Bool.not_not, eq_self, forall_const, implies_true, Nat.reduceAdd, Nat.reduceSub, Nat.reduceMul, Nat.reduceLT, Nat.reduceLeDiff, Nat.reduceEqDiff, Nat.reduceBEq, Nat.reduceSucc, Int.reduceAdd, Int.reduceSub, Int.reduceMul, Int.reduceLT, Int.reduceLE, Int.reduceEq, Int.reduceNeg, Int.reduceToNat, Int.reduceNe, Nat.reduceGT, Int.reduceDiv, Int.reduceMod, Nat.zero_add, Nat.reduceDiv, Nat.reduceMod, $as,*])
theorem len_pre {α : Type} {xs pre post : List α} {x : α} (h : xs = pre ++ x :: post) : pre.length < xs.length := by
  rw [h, List.length_append, List.length_cons]; omega
theorem walk_spec {n : Nat} {m : Mint} (h : MOk n m) (hn : n < 2 ^ 26) {P : Plan} (dr : Dr P) {mo : Int} (mo0 : 0 ≤ mo) (mo1 : mo ≤ 29) : Tk F_l_walk [mtB m, some (.fz (planD P)), some (.fz (.int mo))] (fun v e => ∃ (path : List Ky) (m' : Mint), v = .fr (.lst (path.map kyD)) ∧ path.length ≤ 29 ∧ (∀ k ∈ path, KO k) ∧ MOk (n + 31) m' ∧ e = [mtB m', none, none]) NX := by
  unfold F_l_walk pg_l_walk
  have hp0 := List.length_pos_iff.mpr dr.ok.ne
  simp! only [ixU, rng2, slD, inU, notInU]
  refine Tk.mono' (coin_spec h (by omega) (by omega) (by omega)) ?_; rintro _ _ ⟨c, m1, rfl, c0, c1, h1, rfl⟩
  obtain ⟨j, rfl, hj⟩ : ∃ j : Nat, c = ((j : Nat) : Int) ∧ j ≤ 29 := ⟨c.toNat, by omega, by omega⟩
  have rk : rng1 [((j : Nat) : Int)] = some ((List.range j).map fun i => D.int ((i : Nat) : Int)) := rng_of (by omega)
  simp! only [ixU, rng2, slD, inU, notInU, rk]
  refine Fr.inv (List.range j) (fun pre e => ∃ (a : Nat) (path : List Ky) (m' : Mint) (o3 o6 : Option Bnd), a < P.length ∧ path.length ≤ pre.length ∧ (∀ k ∈ path, KO k) ∧ MOk (n + 1 + pre.length) m' ∧ ioo (some o3) = false ∧ ioo (some o6) = false ∧
    e = [mtB m', some (.fz (planD P)), some (.fz (.int mo)), o3, some (.fz (.int ((a : Nat) : Int))), some (.own (.lst (path.map kyD))), o6]) ⟨0, [], m1, none, none, hp0, Nat.le_refl _, fun k hk => absurd hk (List.not_mem_nil), h1, rfl, rfl, rfl⟩ ?_ ?_
  · rintro pre x post e hx ⟨a, path, m', o3, o6, ha, hpl, hko, hm, i3, i6, rfl⟩
    have hlen : pre.length < 29 := by have := len_pre hx; rw [List.length_range] at this; omega
    have q1 := plan_at ha
    have q2 := eqB_nilR (r := P.getD a []) fun s hs => dr.ok.ko' hs
    have hrl := dr.ok.get a
    by_cases hz : P.getD a [] = []
    · rw [decide_eq_true hz] at q2
      simp! only [rng1, rng2, slD, inU, notInU, i3, q1, q2]
      exact ⟨a, path, m', some (.fz (.int ((x : Nat) : Int))), o6, ha, by rw [List.length_append]; omega, hko, hm.up (by rw [List.length_append]; omega), rfl, i6, rfl⟩
    · rw [decide_eq_false hz] at q2
      have hr0 := List.length_pos_iff.mpr hz
      simp! only [rng1, rng2, slD, inU, notInU, i3, i6, q1, q2, List.length_map]
      refine Tk.mono' (coin_spec hm (by omega) (by omega) (by omega)) ?_; rintro _ _ ⟨q, m2, rfl, q0, q1, h2, rfl⟩
      obtain ⟨i, rfl, hi⟩ : ∃ i : Nat, q = ((i : Nat) : Int) ∧ i < (P.getD a []).length := ⟨q.toNat, by omega, by omega⟩
      have q3 := ix_lst (f := spD) (List.getElem?_eq_getElem hi)
      have hs : (P.getD a [])[i] ∈ P.getD a [] := List.getElem_mem hi
      generalize (P.getD a [])[i] = s at q3 hs
      have hto := (dr.ok.wf.room a).2 s hs
      have k3 : ixU (spD s) (.int 3) = some (.fz (.int ((s.to : Nat) : Int))) := rfl
      simp! only [rng1, rng2, inU, notInU, i3, i6, q1, q3, k3, sl3, nobox_ky, gApp, List.length_map]
      refine ⟨by omega, s.to, path ++ [s.key], m2, some (.fz (.int ((x : Nat) : Int))), some (.fz (spD s)), hto, by rw [List.length_append, List.length_append, List.length_singleton, List.length_singleton]; omega, fun k hk => ?_, h2.up (by rw [List.length_append, List.length_singleton]; omega), rfl, rfl, ?_⟩
      · rcases List.mem_append.mp hk with hk | hk
        · exact hko k hk
        · rw [List.mem_singleton.mp hk]; exact dr.ok.ko' hs
      · rw [List.map_append, List.map_singleton]
  · rintro e ⟨a, path, m', o3, o6, ha, hpl, hko, hm, i3, i6, rfl⟩
    rw [List.length_range] at hpl hm
    simp! only [ixU, rng1, rng2, slD, inU, notInU]
    exact ⟨path, m', rfl, by omega, hko, hm.up (by omega), rfl⟩
theorem mid_len {l : List Ky} {at_ : Nat} {x : Ky} (h : at_ ≤ l.length) : (l.take at_ ++ [x] ++ l.drop at_).length = l.length + 1 := by
  rw [List.length_append, List.length_append, List.length_take, List.length_drop, List.length_singleton]; omega
theorem ko_app {l m : List Ky} (h1 : ∀ k ∈ l, KO k) (h2 : ∀ k ∈ m, KO k) : ∀ k ∈ l ++ m, KO k := fun k hk => (List.mem_append.mp hk).elim (h1 k) (h2 k)
theorem ko_take {l : List Ky} (h : ∀ k ∈ l, KO k) (n : Nat) : ∀ k ∈ l.take n, KO k := fun k hk => h k (List.mem_of_mem_take hk)
theorem ko_drop {l : List Ky} (h : ∀ k ∈ l, KO k) (n : Nat) : ∀ k ∈ l.drop n, KO k := fun k hk => h k (List.mem_of_mem_drop hk)
theorem ko_one {k : Ky} (h : KO k) : ∀ x ∈ [k], KO x := fun x hx => by rw [List.mem_singleton.mp hx]; exact h
theorem bent_row_spec {n : Nat} {m : Mint} (h : MOk n m) (hn : n < 2 ^ 26) {path : List Ky} (hl : path.length ≤ 29) (hk : ∀ k ∈ path, KO k) {ls ws : List Str} (l2 : ls.length = 2) (w3 : ws.length = 3) (gl : ∀ s ∈ ls, Good s) (gw : ∀ s ∈ ws, Good s) :
    Tk F_l_bent_row [mtB m, some (.io (.lst (path.map kyD))), some (.fz (.lst (ls.map D.str))), some (.fz (.lst (ws.map D.str)))] (fun v e => ∃ (row : List Ky) (m' : Mint), v = .fr (.lst (row.map kyD)) ∧ row.length ≤ 30 ∧ (∀ k ∈ row, KO k) ∧ MOk (n + 7) m' ∧ e = [mtB m', some (.io (.lst (path.map kyD))), none, none]) NX := by
  unfold F_l_bent_row pg_l_bent_row
  have nb := nobox_ky path
  simp! only [rng1, rng2, slD, inU, notInU]
  refine Tk.mono' (coin_spec h (by omega) (by omega) (by omega)) ?_; rintro _ _ ⟨q, m1, rfl, q0, q1, h1, rfl⟩
  obtain ⟨sg, hs1, hsg⟩ := ix_sg q0 q1
  simp! only [rng1, rng2, slD, inU, notInU, hs1]
  refine Tk.mono' (coin_spec h1 (by omega) (by omega) (by omega)) ?_; rintro _ _ ⟨u, m2, rfl, u0, u1, h2, rfl⟩
  obtain ⟨ln, hln, hl1⟩ := ix_strs (ls := ls) u0 (by omega)
  simp! only [rng1, rng2, slD, inU, notInU, hl1]
  refine Tk.mono' (coin_spec h2 (by omega) (by omega) (by omega)) ?_; rintro _ _ ⟨z, m3, rfl, z0, z1, h3, rfl⟩
  obtain ⟨wd, hwd, hw2⟩ := ix_strs (ls := ws) z0 (by omega)
  have kk : KO (sg, ln, wd) := ⟨strOk_sg hsg, good_ok (gl _ hln), good_ok (gw _ hwd)⟩
  have kD : D.tup [.str sg, .str ln, .str wd] = kyD (sg, ln, wd) := rfl
  simp! only [rng1, rng2, slD, inU, notInU, hw2, nb, List.length_map]
  refine Tk.mono' (coin_spec h3 (by omega) (by omega) (by omega)) ?_; rintro _ _ ⟨at_, m4, rfl, at_0, at_1, h4, rfl⟩
  simp! only [rng1, rng2, inU, notInU, nb, List.length_map]
  refine Tk.mono' (coin_spec h4 (by omega) (by omega) (by omega)) ?_; rintro _ _ ⟨way, m5, rfl, way0, way1, h5, rfl⟩
  obtain ⟨a, rfl, ha⟩ : ∃ a : Nat, at_ = ((a : Nat) : Int) ∧ a ≤ path.length := ⟨at_.toNat, by omega, by omega⟩
  have c1 := cut_take (f := kyD) (l := path) (k := ((a : Nat) : Int)) (by omega)
  have c2 := cut_drop' (f := kyD) (l := path) (k := ((a : Nat) : Int)) (by omega)
  have c3 := cut_drop' (f := kyD) (l := path) (k := ((a : Nat) : Int) + 1) (by omega)
  rw [Int.toNat_natCast] at c1 c2
  have t1 : (((a : Nat) : Int) + 1).toNat = a + 1 := by omega
  rw [t1] at c3
  simp! only [rng1, rng2, inU, notInU, nb, List.length_map]
  refine Bif.mkd (fun hw => ?_) (fun hw => ?_)
  · have e1 : (path.take a).map kyD ++ [D.tup [.str sg, .str ln, .str wd]] = (path.take a ++ [(sg, ln, wd)]).map kyD := by rw [List.map_append]; rfl
    have e2 : (path.take a ++ [(sg, ln, wd)]).map kyD ++ (path.drop a).map kyD = (path.take a ++ [(sg, ln, wd)] ++ path.drop a).map kyD := by rw [← List.map_append]
    simp! only [rng1, rng2, inU, notInU, nb, c1, c2, opens_ky, e1, e2, List.length_map]
    refine ⟨?_, ?_, path.take a ++ [(sg, ln, wd)] ++ path.drop a, m5, rfl, by rw [mid_len ha]; omega, ko_app (ko_app (ko_take hk a) (ko_one kk)) (ko_drop hk a), h5.up (by omega), rfl⟩
    · rw [List.length_take]; omega
    · rw [List.length_append, List.length_take, List.length_drop, List.length_singleton]; omega
  · have e3 : (path.take a).map kyD ++ (path.drop (a + 1)).map kyD = (path.take a ++ path.drop (a + 1)).map kyD := by rw [← List.map_append]
    simp! only [rng1, rng2, inU, notInU, nb, List.length_map]
    refine Bif.mkd (fun h1w => ?_) (fun h1w => ?_)
    · simp! only [rng1, rng2, inU, notInU, nb, c1, c3, opens_ky, e3, List.length_map]
      refine ⟨?_, path.take a ++ path.drop (a + 1), m5, rfl, ?_, ko_app (ko_take hk a) (ko_drop hk _), h5.up (by omega), rfl⟩
      · rw [List.length_take, List.length_drop]; omega
      · rw [List.length_append, List.length_take, List.length_drop]; omega
    · simp! only [rng1, rng2, inU, notInU, nb, c1, c3, opens_ky, e3, List.length_map]
      refine Bif.mkd (fun hal => ?_) (fun hal => ?_)
      · simp! only [rng1, rng2, inU, notInU, nb, c1, c3, opens_ky, e3, List.length_map]
        refine ⟨?_, path.take a ++ path.drop (a + 1), m5, rfl, ?_, ko_app (ko_take hk a) (ko_drop hk _), h5.up (by omega), rfl⟩
        · rw [List.length_take, List.length_drop]; omega
        · rw [List.length_append, List.length_take, List.length_drop]; omega
      · have hlt : a < path.length := by omega
        have q5 := ix_lst (f := kyD) (List.getElem?_eq_getElem hlt)
        have hk0 := hk _ (List.getElem_mem hlt)
        generalize path[a] = k0 at q5 hk0
        have r0 : ixU (kyD k0) (.int 0) = some (.fz (.str k0.1)) := rfl
        have r1 : ixU (kyD k0) (.int 1) = some (.fz (.str k0.2.1)) := rfl
        have r2 : ixU (kyD k0) (.int 2) = some (.fz (.str k0.2.2)) := rfl
        have p0 : ixU (.tup [.str sg, .str ln, .str wd]) (.int 0) = some (.fz (.str sg)) := rfl
        have p1 : ixU (.tup [.str sg, .str ln, .str wd]) (.int 1) = some (.fz (.str ln)) := rfl
        have p2 : ixU (.tup [.str sg, .str ln, .str wd]) (.int 2) = some (.fz (.str wd)) := rfl
        simp! only [rng1, rng2, inU, notInU, nb, q5, r0, r1, r2, p0, p1, p2, c1, c3, List.length_map, opens_ky]
        refine Tk.mono' (coin_spec h5 (by omega) (by omega) (by omega)) ?_; rintro _ _ ⟨y, m6, rfl, y0, y1, h6, rfl⟩
        obtain ⟨x, hx, q6⟩ : ∃ x : Ky, KO x ∧ ixU (.lst [.tup [.str sg, .str k0.2.1, .str k0.2.2], .tup [.str k0.1, .str ln, .str k0.2.2], .tup [.str k0.1, .str k0.2.1, .str wd]]) (.int y) = some (.fz (kyD x)) := by
          rcases (by omega : y = 0 ∨ y = 1 ∨ y = 2) with rfl | rfl | rfl
          · exact ⟨(sg, k0.2.1, k0.2.2), ⟨kk.1, hk0.2.1, hk0.2.2⟩, rfl⟩
          · exact ⟨(k0.1, ln, k0.2.2), ⟨hk0.1, kk.2.1, hk0.2.2⟩, rfl⟩
          · exact ⟨(k0.1, k0.2.1, wd), ⟨hk0.1, hk0.2.1, kk.2.2⟩, rfl⟩
        have e1 : (path.take a).map kyD ++ [kyD x] = (path.take a ++ [x]).map kyD := by rw [List.map_append]; rfl
        have e2 : (path.take a ++ [x]).map kyD ++ (path.drop (a + 1)).map kyD = (path.take a ++ [x] ++ path.drop (a + 1)).map kyD := by rw [← List.map_append]
        simp! only [rng1, rng2, inU, notInU, nb, q6, c1, c3, opens_ky, e1, e2, List.length_map]
        refine ⟨?_, ?_, path.take a ++ [x] ++ path.drop (a + 1), m6, rfl, ?_, ko_app (ko_app (ko_take hk a) (ko_one hx)) (ko_drop hk _), h6.up (by omega), rfl⟩
        · rw [List.length_take]; omega
        · rw [List.length_append, List.length_take, List.length_drop, List.length_singleton]; omega
        · rw [List.length_append, List.length_append, List.length_take, List.length_drop, List.length_singleton]; omega
end LW
set_option maxHeartbeats 8000000
namespace LW
open PySem PySem.Spec PyProof.Rows L2 VE SV
local macro_rules | `(tactic| simp! only [$as,*]) => `(tactic| simp -dsimp only [Tk_bind, Tk_pure, Tk_none, Tk_xc, Tk_xv, Tk_xf, Tk_xm, Tk_frz, Tk_x2, Tk_x1, Tk_bt, Tk_bAnd, Tk_bOr, Tk_bNot, Tk_xAnd, Tk_xOr, Tk_xNot, Tk_xIf, Tk_aNil, Tk_aCons, Tk_xTup, Tk_xLst, Tk_xB, Tk_xSet, Tk_oNone, Tk_oSome, Tk_xSl, Tk_xChain, Ts_sNil, Ts_sBrk, Ts_sCnt, Ts_sSeq, Ts_sDrop, Ts_sRet, Ts_sRetN, Ts_sIf, Ts_sSet, Ts_sAsg, Ts_sPar, Ts_sPar3, Ts_sFor, Ts_sWhile, Ts_sRaise, Sq, Tk_itN, itnO_own, Ts_sForO, Tk_itD, Tk_itR1, Tk_itR2, Tk_itE, Tk_itZ, Tk_callE, Tk_xdef, Tk_xNam, Tk_xMk, Tk_aRecv, Tk_xMeth, Tk_xProp, Tk_xFld, Tk_two, Tk_lenO, Tk_xOpO, Tk_xIsI, Tk_xDn, Tk_xDisp1, Tk_xJoin, Tk_xEv, Tk_xIsE, Tk_bYes, Tk_xMut, Ts_stU, Ts_sStU, Ts_sFldE, Ts_sTry, Ts_sSetE, Tk_semF, Tk_xLc, Bif_t, Bif_f, So_some, So_none, So_map, So_bind, So_ite, So_ite', rdv, xfk, xmk, frv, bov, nfr, inv1, fzo, itv, enuv, zipv, ncal, xcal, lastI, nmk, xmkx, fldv, natv, one1, Stu, owE, fldk, Tryk, endk, turn, Tg, endO, mapO, restO, ownB, itemsO_t, itemsO_f, deref, derefs, fzs, stow_fz, stow_fr, ioo_none, ioo_fz, ioo_own, ioo_io, argsE, backE, bors, ioB, Bnd.d, Bnd.put, Bnd.ow, putE, ownL, ownD, wipeE, restE, okV, gN, gsN, gsC, gT, flatD, noBox, open_, opens, openV, pick, isIns, intsV, Tg_gN, Int.cast_ofNat_Int, Int.natCast_zero, Int.natCast_one, eqB_int, eqB_str, eqB_bl, joinD, opens_str, opens_str', nobox_str, nobox_str', opens_int, opens_int', nobox_int, nobox_int', opens_bl, opens_bl', nobox_bl, nobox_bl', addD, subD, mulD, mulU, divD, modD, powD, andD, cmpD, ltD, gtD, leD, geD, eqD, neD, isD, isntD, VE.isNon, ixD, lenU, lenD, VE.intD, absD, max2D, min2D, listD, tupleD, boolsD, anyD, allD, negD, List.getElem?_cons_zero, List.getElem?_cons_succ, List.getElem?_nil, List.length_cons, List.length_nil, List.set_cons_zero, List.set_cons_succ, List.set_nil, List.cons_append, List.nil_append, List.append_nil, List.replicate_succ, List.replicate_zero, List.all_cons, List.all_nil, List.map_cons, List.map_nil, List.any_cons, List.any_nil, List.getLast?_cons_cons, List.getLast?_singleton, List.dropLast_cons₂, List.dropLast_singleton, List.getD_cons_zero, List.getD_cons_succ, List.getD_nil, List.nodup_nil, List.nodup_cons, List.not_mem_nil, List.mem_cons, List.mem_singleton, Option.bind_some, Option.bind_none, Option.map_some, Option.map_none, id, Option.isSome_some, Option.isSome_none, and_true, true_and, and_self, and_false, false_and, or_true, true_or, or_false, false_or, not_true_eq_false, not_false_eq_true, if_true, if_false, ite_true, ite_false, reduceCtorEq, Bool.not_true, Bool.not_false, Bool.and_true, Bool.true_and, Bool.and_false, Bool.false_and, Bool.or_true, Bool.true_or, decide_true, decide_false, Bool.and_self, Bool.or_self, Bool.or_false, Bool.false_or, Bool.not_not, eq_self, forall_const, implies_true, Nat.reduceAdd, Nat.reduceSub, Nat.reduceMul, Nat.reduceLT, Nat.reduceLeDiff, Nat.reduceEqDiff, Nat.reduceBEq, Nat.reduceSucc, Int.reduceAdd, Int.reduceSub, Int.reduceMul, Int.reduceLT, Int.reduceLE, Int.reduceEq, Int.reduceNeg, Int.reduceToNat, Int.reduceNe, Nat.reduceGT, Int.reduceDiv, Int.reduceMod, Nat.zero_add, Nat.reduceDiv, Nat.reduceMod, $as,*])
noncomputable def pg_body : SP := (sSeq (sPar 9 10 (xB listD (aCons (xv 8) aNil)) (xdef 2 F_l_has_row (aCons (xf 2) (aCons (xv 8) aNil))))
  (sSeq (sIf (bOr (bt (x2 neD (xB reprD (aCons (frz (xLst (aCons (frz (xMeth "Service" "has" 2 F_Service_has (xv 3) (aCons (xv 8) aNil))) (aCons (frz (xMeth "Service" "has" 2 F_Service_has (xv 3) (aCons (xv 8) aNil))) aNil)))) aNil)) (xB reprD (aCons (frz (xLst (aCons (xf 10) (aCons (xf 10) aNil)))) aNil)))) (bt (x2 neD (xv 8) (xv 9)))) (sRet (xc (.bl false))) sNil)
  (sSeq (sDrop (xMut 8 gApp (aCons (xTup (aCons (xc (.str "!")) (aCons (x2 ixU (xv 5) (xc (.int 0))) (aCons (x2 ixU (xv 6) (xc (.int 0))) aNil)))) aNil)))
  (sIf (bAnd (bt (x2 ltD (xB lenU (aCons (xv 8) aNil)) (xc (.int 31)))) (bt (x2 neD (xB reprD (aCons (frz (xMeth "Service" "has" 2 F_Service_has (xv 3) (aCons (xv 8) aNil))) aNil)) (xB reprD (aCons (frz (xdef 2 F_l_has_row (aCons (xf 2) (aCons (xv 8) aNil)))) aNil))))) (sRet (xc (.bl false))) sNil))))
theorem rp1 (b : Bool) : reprD [.bl b] = some (.fz (.str (shD (.bl b)))) := repr_ok (by simp [VE.shw, shws]) (by simp [blk, blks]) (by simp [dpt, dpts])
theorem rp2 (b : Bool) : reprD [.lst [.bl b, .bl b]] = some (.fz (.str (shD (.lst [.bl b, .bl b])))) := repr_ok (by simp [VE.shw, shws]) (by simp [blk, blks]) (by simp [dpt, dpts])
theorem body_spec {P L : Plan} (dr : POk P) (hL : POk L) (ht : tr L 0 = tr P 0) {row : List Ky} (hl : row.length ≤ 30) (hk : ∀ k ∈ row, KO k) {ls ws : List Str} {l0 w0 : Str} (gl : Good l0) (gw : Good w0) (il : ixU (.lst (ls.map D.str)) (.int 0) = some (.fz (.str l0))) (iw : ixU (.lst (ws.map D.str)) (.int 0) = some (.fz (.str w0)))
    {mb o1 o4 o7 o9 o10 : Option Bnd} (i9 : ioo (some o9) = false) (i10 : ioo (some o10) = false) {Q : SOut → Prop}
    (hQ : ∀ o8 o9 o10 : Option Bnd, ioo (some o8) = false → ioo (some o9) = false → ioo (some o10) = false → Q (.nx [mb, o1, some (.fz (planD P)), some (.fz (svcD L)), o4, some (.fz (.lst (ls.map D.str))), some (.fz (.lst (ws.map D.str))), o7, o8, o9, o10])) :
    Ts pg_body [mb, o1, some (.fz (planD P)), some (.fz (svcD L)), o4, some (.fz (.lst (ls.map D.str))), some (.fz (.lst (ws.map D.str))), o7, some (.own (.lst (row.map kyD))), o9, o10] Q := by
  unfold pg_body
  have kn : KO (("!" : Str), l0, w0) := ⟨strOk_sg (.inl rfl), good_ok gl, good_ok gw⟩
  have hs := has_io hL hk
  rw [ht] at hs
  have hr := has_row_io dr hk
  have hk2 := ko_app hk (ko_one kn)
  have hs2 := has_io hL hk2
  rw [ht] at hs2
  have hr2 := has_row_io dr hk2
  have nb := nobox_ky row
  have nb2 := nobox_ky (row ++ [(("!" : Str), l0, w0)])
  have e1 : row.map kyD ++ [D.tup [.str "!", .str l0, .str w0]] = (row ++ [(("!" : Str), l0, w0)]).map kyD := by rw [List.map_append]; rfl
  have eq1 := eqB_kys hk hk
  rw [decide_eq_true rfl] at eq1
  simp! only [rng1, rng2, slD, inU, notInU, i9, i10, nb, opens_ky]
  refine hr.mono' ?_
  rintro _ _ ⟨rfl, rfl⟩
  simp! only [rng1, rng2, slD, inU, notInU, i9, i10, nb, opens_ky, lk0, lkH, isIns, Option.isNone_none]
  refine hs.mono' ?_
  rintro _ _ ⟨rfl, rfl⟩
  simp! only [rng1, rng2, slD, inU, notInU, i9, i10, nb, opens_ky, lk0, lkH, isIns, Option.isNone_none]
  refine hs.mono' ?_
  rintro _ _ ⟨rfl, rfl⟩
  simp! only [rng1, rng2, slD, inU, notInU, i9, i10, nb, opens_ky, rp2, eq1, il, iw, gApp, e1, nb2, List.length_map, List.length_append, lk0, lkH, isIns, Option.isNone_none]
  refine ⟨by omega, ?_⟩
  refine Bif.mkd (fun hz => ?_) (fun hz => ?_)
  · simp! only [rng1, rng2, slD, inU, notInU, nb2, lk0, lkH, isIns, Option.isNone_none]
    refine hs2.mono' ?_
    rintro _ _ ⟨rfl, rfl⟩
    simp! only [rng1, rng2, slD, inU, notInU, rp1, nb2, lk0, lkH, isIns, Option.isNone_none]
    refine hr2.mono' ?_
    rintro _ _ ⟨rfl, rfl⟩
    simp! only [rng1, rng2, slD, inU, notInU, rp1, nb2, lk0, lkH, isIns, Option.isNone_none]
    exact hQ _ _ _ rfl rfl rfl
  · simp! only [ixU, rng1, rng2, slD, inU, notInU]
    exact hQ _ _ _ rfl rfl rfl
theorem least_key {P : Plan} (W : Wf P) (hp : P ≠ []) : ∀ r ∈ least P, ∀ s ∈ r, ∃ r' ∈ P, ∃ t ∈ r', s.key = t.key := by
  obtain ⟨o, h, hl⟩ := least_bi W hp
  intro r hr s hs
  obtain ⟨i, hi, e⟩ := List.mem_iff_getElem.mp hr
  obtain ⟨r1, _⟩ := h.rm i (o[i]'(by omega)) hi (List.getElem?_eq_getElem (by omega))
  rw [List.getElem?_eq_getElem hi] at r1
  have e2 := e.symm.trans (Option.some.inj r1)
  rw [e2] at hs
  obtain ⟨t, ht, rfl⟩ := List.mem_map.mp hs
  have ht := (srt_perm _).mem_iff.mp ht
  rw [List.getD_eq_getElem?_getD] at ht
  cases hq : P[o[i]'(by omega)]? with
  | none => rw [hq] at ht; cases ht
  | some r' =>
    rw [hq] at ht
    exact ⟨r', List.mem_of_getElem? hq, t, ht, rfl⟩
theorem least_okP {P : Plan} (dr : Dr P) : POk (least P) := by
  have W := dr.ok.wf
  have hp := dr.ok.ne
  refine ⟨least_wf W hp, least_ne W hp, Nat.le_trans (least_le W hp) dr.ok.len, fun r hr => ?_, fun r hr s hs => ?_⟩
  · have := least_rooms' dr.get r hr
    omega
  · obtain ⟨r', hr', t, ht, e⟩ := least_key W hp r hr s hs
    have := dr.ok.nm r' hr' t ht
    simp only [Zs.key, Prod.mk.injEq] at e
    rw [e.1, e.2.1, e.2.2]; exact this
theorem r6 : rng1 [6] = some ((List.range 6).map fun i => D.int ((i : Nat) : Int)) := rng_of (j := 6) (by decide)
theorem forO3_step {i : Nat} {B : SP} {d : D} {ds : List D} {e e1 : SE} {Q : SOut → Prop} (h : stow i (.fr d) e = some e1) (k : Ts B e1 (turn (fun e2 => Ts (forO3 i B ds) e2 Q) Q)) : Ts (forO3 i B (d :: ds)) e Q := by
  rw [Ts_forO3_cons, h]
  exact k
theorem forO3_end {i : Nat} {B : SP} {e : SE} {Q : SOut → Prop} (k : Q (.nx e)) : Ts (forO3 i B []) e Q := by
  rw [Ts_forO3_nil]
  exact k
theorem stow_at8 {mb o1 o2 o3 o4 o5 o6 o7 o8 o9 o10 : Option Bnd} {d : D} (i8 : ioo (some o8) = false) : stow 8 (.fr d) [mb, o1, o2, o3, o4, o5, o6, o7, o8, o9, o10] = some [mb, o1, o2, o3, o4, o5, o6, o7, some (.own d), o9, o10] := by
  rw [stow_fr]
  simp [i8]
theorem fits_spec {n : Nat} {m : Mint} (h : MOk n m) (hn : n < 2 ^ 25) : Tk F_l_fits [mtB m] (fun v e => ∃ m', v = .fz (.bl true) ∧ MOk (n + 600) m' ∧ e = [mtB m']) NX := by
  unfold F_l_fits pg_l_fits
  simp! only [ixU, rng1, rng2, slD, inU, notInU]
  refine (labels_int h (by omega) (by decide) (by decide)).mono' ?_
  rintro _ _ ⟨ws, m1, rfl, hw1, hw2, hw3, hm1, rfl⟩
  have hw5 : ws.length = 5 := hw1
  have s1 := cut_take (f := D.str) (l := ws) (k := 2) (by omega)
  have s2 := cut_drop' (f := D.str) (l := ws) (k := 2) (by omega)
  have t2 : (2 : Int).toNat = 2 := rfl
  rw [t2] at s1 s2
  have l0 : (ws.take 2).length = 2 := by rw [List.length_take]; omega
  have d0 : (ws.drop 2).length = 3 := by rw [List.length_drop]; omega
  have gl : ∀ s ∈ ws.take 2, Good s := fun s hs => hw2 s (List.mem_of_mem_take hs)
  have gw : ∀ s ∈ ws.drop 2, Good s := fun s hs => hw2 s (List.mem_of_mem_drop hs)
  obtain ⟨x0, hx0, il⟩ := ix_strs (ls := ws.take 2) (r := 0) (by omega) (by omega)
  obtain ⟨y0, hy0, iw⟩ := ix_strs (ls := ws.drop 2) (r := 0) (by omega) (by omega)
  simp! only [ixU, rng1, rng2, inU, notInU, s1, s2, opens_str', nobox_str']
  refine (plan_of_spec hm1 (by omega) (by omega) (by omega) (by omega) (by omega) (by omega) (by omega) gl gw).mono' ?_
  rintro _ _ ⟨P, m2, rfl, dr, hm2, rfl⟩
  simp! only [ixU, rng1, rng2, slD, inU, notInU, opens_room]
  refine (made_spec dr).mono' ?_
  rintro _ _ ⟨rfl, rfl⟩
  have okL := least_okP dr
  have ht : tr (least P) 0 = tr P 0 := least_tr dr.ok.wf dr.ok.ne
  generalize ws.take 2 = ls at *
  generalize ws.drop 2 = ds at *
  have svP : svcP P = svcD (least P) := rfl
  rw [svP]
  generalize least P = L at okL ht
  simp! only [ixU, rng2, slD, inU, notInU, r6, openF, open_, opens_tupR]
  refine Fr.inv (List.range 6) (fun pre e => ∃ (m' : Mint) (o4 o7 o8 o9 o10 : Option Bnd), MOk (n + 295 + 40 * pre.length) m' ∧ ioo (some o4) = false ∧ ioo (some o7) = false ∧ ioo (some o8) = false ∧ ioo (some o9) = false ∧ ioo (some o10) = false ∧
    e = [mtB m', some (.own (.lst (ws.map D.str))), some (.fz (planD P)), some (.fz (svcD L)), o4, some (.fz (.lst (ls.map D.str))), some (.fz (.lst (ds.map D.str))), o7, o8, o9, o10]) ⟨m2, none, none, none, none, none, hm2.up (by omega), rfl, rfl, rfl, rfl, rfl, rfl⟩ ?_ ?_
  · rintro pre x post e hx ⟨m', o4, o7, o8, o9, o10, hm, i4, i7, i8, i9, i10, rfl⟩
    have hlen : pre.length < 6 := by have := len_pre hx; rw [List.length_range] at this; omega
    simp! only [rng1, rng2, slD, inU, notInU, i4]
    refine Tk.mono' (coin_spec hm (by omega) (by omega) (by omega)) ?_; rintro _ _ ⟨q, m3, rfl, q0, q1, h1, rfl⟩
    obtain ⟨mo, hmo, hm0, hm1'⟩ : ∃ mo : Int, ixU (.lst [.int 5, .int 29]) (.int q) = some (.fz (.int mo)) ∧ 0 ≤ mo ∧ mo ≤ 29 := by
      rcases (by omega : q = 0 ∨ q = 1) with rfl | rfl
      · exact ⟨5, rfl, by omega, by omega⟩
      · exact ⟨29, rfl, by omega, by omega⟩
    simp! only [rng1, rng2, slD, inU, notInU, i4, hmo]
    refine (walk_spec h1 (by omega) dr hm0 hm1').mono' ?_
    rintro _ _ ⟨path, m4, rfl, hpl, hpk, h2, rfl⟩
    have nb := nobox_ky path
    simp! only [rng1, rng2, inU, notInU, i7, Ts_sForN3, ownD1_own, nb]
    refine (bent_row_spec h2 (by omega) hpl hpk l0 d0 gl gw).mono' ?_
    rintro _ _ ⟨row, m5, rfl, hrl, hrk, h3, rfl⟩
    simp! only [rng1, rng2, inU, notInU, nb, frD_fr, ownD1_own, List.length_map]
    refine Tk.mono' (coin_spec h3 (by omega) (by omega) (by omega)) ?_; rintro _ _ ⟨k, m6, rfl, k0, k1, h4, rfl⟩
    have c1 := cut_take (f := kyD) (l := path) (k := k) (by omega)
    simp! only [rng1, rng2, inU, notInU, nb, c1, frD_fr, ownD1_own, List.length_map]
    refine forO3_step (stow_at8 i8) ?_
    refine body_spec dr.ok okL ht (by omega) hpk (gl _ hx0) (gw _ hy0) il iw i9 i10 fun p8 p9 p10 j8 j9 j10 => ?_
    show Ts _ _ _
    refine forO3_step (stow_at8 j8) ?_
    refine body_spec dr.ok okL ht hrl hrk (gl _ hx0) (gw _ hy0) il iw j9 j10 fun q8 q9 q10 k8 k9 k10 => ?_
    show Ts _ _ _
    refine forO3_step (stow_at8 k8) ?_
    refine body_spec dr.ok okL ht (by rw [List.length_take]; omega) (ko_take hpk _) (gl _ hx0) (gw _ hy0) il iw k9 k10 fun r8 r9 r10 n8 n9 n10 => ?_
    show Ts _ _ _
    refine forO3_end ?_
    exact ⟨m6, some (.fz (.int ((x : Nat) : Int))), none, r8, r9, r10, h4.up (by rw [List.length_append, List.length_singleton]; omega), rfl, rfl, n8, n9, n10, rfl⟩
  · rintro e ⟨m', o4, o7, o8, o9, o10, hm, i4, i7, i8, i9, i10, rfl⟩
    rw [List.length_range] at hm
    simp! only [ixU, rng1, rng2, slD, inU, notInU, lk0, lkH, isIns, Option.isNone_none]
    refine (has_nil okL).mono' ?_
    rintro _ _ ⟨rfl, rfl⟩
    simp! only [ixU, rng1, rng2, slD, inU, notInU, isBD]
    exact ⟨m', hm.up (by omega), rfl⟩
end LW
namespace LW
open PySem PySem.Spec PyProof.Rows L2 VE SV
local macro_rules | `(tactic| simp! only [$as,*]) => `(tactic| simp -dsimp only [Tk_bind, Tk_pure, Tk_none, Tk_xc, Tk_xv, Tk_xf, Tk_xm, Tk_frz, Tk_x2, Tk_x1, Tk_bt, Tk_bAnd, Tk_bOr, Tk_bNot, Tk_xAnd, Tk_xOr, Tk_xNot, Tk_xIf, Tk_aNil, Tk_aCons, Tk_xTup, Tk_xLst, Tk_xB, Tk_xSet, Tk_oNone, Tk_oSome, Tk_xSl, Tk_xChain, Ts_sNil, Ts_sBrk, Ts_sCnt, Ts_sSeq, Ts_sDrop, Ts_sRet, Ts_sRetN, Ts_sIf, Ts_sSet, Ts_sAsg, Ts_sPar, Ts_sPar3, Ts_sFor, Ts_sWhile, Ts_sRaise, Sq, Tk_itN, itnO_own, Ts_sForO, Tk_itD, Tk_itR1, Tk_itR2, Tk_itE, Tk_itZ, Tk_callE, Tk_xdef, Tk_xNam, Tk_xMk, Tk_aRecv, Tk_xMeth, Tk_xProp, Tk_xFld, Tk_two, Tk_lenO, Tk_xOpO, Tk_xIsI, Tk_xDn, Tk_xDisp1, Tk_xJoin, Tk_xEv, Tk_xIsE, Tk_bYes, Tk_xMut, Ts_stU, Ts_sStU, Ts_sFldE, Ts_sTry, Ts_sSetE, Tk_semF, Tk_xLc, Bif_t, Bif_f, So_some, So_none, So_map, So_bind, So_ite, So_ite', rdv, xfk, xmk, frv, bov, nfr, inv1, fzo, itv, enuv, zipv, ncal, xcal, lastI, nmk, xmkx, fldv, natv, one1, Stu, owE, fldk, Tryk, endk, turn, Tg, endO, mapO, restO, ownB, itemsO_t, itemsO_f, deref, derefs, fzs, stow_fz, stow_fr, ioo_none, ioo_fz, ioo_own, ioo_io, argsE, backE, bors, ioB, Bnd.d, Bnd.put, Bnd.ow, putE, ownL, ownD, wipeE, restE, okV, gN, gsN, gsC, gT, flatD, noBox, open_, opens, openV, pick, isIns, intsV, Tg_gN, Int.cast_ofNat_Int, Int.natCast_zero, Int.natCast_one, eqB_int, eqB_str, eqB_bl, joinD, opens_str, opens_str', nobox_str, nobox_str', opens_int, opens_int', nobox_int, nobox_int', opens_bl, opens_bl', nobox_bl, nobox_bl', addD, subD, mulD, mulU, divD, modD, powD, andD, cmpD, ltD, gtD, leD, geD, eqD, neD, isD, isntD, VE.isNon, ixD, lenU, lenD, VE.intD, absD, max2D, min2D, listD, tupleD, boolsD, anyD, allD, negD, List.getElem?_cons_zero, List.getElem?_cons_succ, List.getElem?_nil, List.length_cons, List.length_nil, List.set_cons_zero, List.set_cons_succ, List.set_nil, List.cons_append, List.nil_append, List.append_nil, List.replicate_succ, List.replicate_zero, List.all_cons, List.all_nil, List.map_cons, List.map_nil, List.any_cons, List.any_nil, List.getLast?_cons_cons, List.getLast?_singleton, List.dropLast_cons₂, List.dropLast_singleton, List.getD_cons_zero, List.getD_cons_succ, List.getD_nil, List.nodup_nil, List.nodup_cons, List.not_mem_nil, List.mem_cons, List.mem_singleton, Option.bind_some, Option.bind_none, Option.map_some, Option.map_none, id, Option.isSome_some, Option.isSome_none, and_true, true_and, and_self, and_false, false_and, or_true, true_or, or_false, false_or, not_true_eq_false, not_false_eq_true, if_true, if_false, ite_true, ite_false, reduceCtorEq, Bool.not_true, Bool.not_false, Bool.and_true, Bool.true_and, Bool.and_false, Bool.false_and, Bool.or_true, Bool.true_or, decide_true, decide_false, Bool.and_self, Bool.or_self, Bool.or_false, Bool.false_or, Bool.not_not, eq_self, forall_const, implies_true, Nat.reduceAdd, Nat.reduceSub, Nat.reduceMul, Nat.reduceLT, Nat.reduceLeDiff, Nat.reduceEqDiff, Nat.reduceBEq, Nat.reduceSucc, Int.reduceAdd, Int.reduceSub, Int.reduceMul, Int.reduceLT, Int.reduceLE, Int.reduceEq, Int.reduceNeg, Int.reduceToNat, Int.reduceNe, Nat.reduceGT, Int.reduceDiv, Int.reduceMod, Nat.zero_add, Nat.reduceDiv, Nat.reduceMod, $as,*])
theorem r1 : rng1 [1] = some ((List.range 1).map fun i => D.int ((i : Nat) : Int)) := rng_of (j := 1) (by decide)
theorem law_spec {ns : List Int} (hl : ns.length ≤ 63) : Tk F_lawdef [some (.fz (.scr ns))] (fun v e => v = .fz (.bl true)) NX := by
  unfold F_lawdef pg_lawdef
  simp! only [ixU, rng2, slD, inU, notInU]
  obtain ⟨j, hj, j0, j1⟩ : ∃ j : Int, (if (if ((ns.length : Nat) : Int) < 24 then ((ns.length : Nat) : Int) else 24) > 1 then (if ((ns.length : Nat) : Int) < 24 then ((ns.length : Nat) : Int) else 24) else 1) = j ∧ 0 ≤ j ∧ j ≤ 24 := ⟨_, rfl, by split <;> (try split) <;> omega, by split <;> (try split) <;> omega⟩
  rw [hj, rng_of' j0 (by omega)]
  simp! only [ixU, rng1, rng2, slD, inU, notInU]
  refine Fr.inv (List.range j.toNat) (fun pre e => ∃ (o1 o2 o3 : Option Bnd), ioo (some o1) = false ∧ ioo (some o2) = false ∧ ioo (some o3) = false ∧ e = [some (.fz (.scr ns)), o1, o2, o3]) ⟨none, none, none, rfl, rfl, rfl, rfl⟩ ?_ ?_
  · rintro pre x post e hx ⟨o1, o2, o3, i1, i2, i3, rfl⟩
    have hx2 : x < 24 := by
      have : x ∈ List.range j.toNat := by rw [hx]; simp
      have := List.mem_range.mp this
      omega
    simp! only [ixU, rng1, rng2, slD, inU, notInU, i1, i2, i3]
    refine (mint_spec hl (by omega)).mono' ?_
    rintro _ _ ⟨m, rfl, hm, rfl⟩
    simp! only [ixU, rng2, slD, inU, notInU, i1, i2, i3, r1, mtD]
    refine Fr.inv (List.range 1) (fun pre' e => ∃ (m' : Mint) (o3 : Option Bnd), ioo (some o3) = false ∧ MOk (0 + 600 * pre'.length) m' ∧ e = [some (.fz (.scr ns)), some (.fz (.int (x : Int))), some (.own (.lst [.int m'.g, .int m'.s, .int m'.c])), o3]) ⟨m, o3, i3, hm, rfl⟩ ?_ ?_
    · rintro pre' y post' e hy ⟨m', o3, i3, hm', rfl⟩
      have hlen : pre'.length < 1 := by
        have := congrArg List.length hy
        simp at this
        omega
      simp! only [ixU, rng1, rng2, slD, inU, notInU, i3]
      refine (fits_spec hm' (by omega)).mono' ?_
      rintro _ _ ⟨m2, rfl, hm2, rfl⟩
      simp! only [ixU, rng1, rng2, slD, inU, notInU]
      exact ⟨m2, _, rfl, hm2.up (by rw [List.length_append]; simp; omega), rfl⟩
    · rintro e ⟨m', o3, i3, hm', rfl⟩
      exact ⟨_, _, _, rfl, rfl, i3, rfl⟩
  · rintro e ⟨o1, o2, o3, i1, i2, i3, rfl⟩
    simp! only [ixU, rng1, rng2, slD, inU, notInU]
theorem lawPlain (ns : List Int) (hl : ns.length ≤ 63) (hb : ∀ z ∈ ns, Builtin.Int.intBits z ≤ 1048576) : ∃ e, F_lawdef [some (.fz (.scr ns))] = some (.ok (.fz (.bl true)) e) := by
  obtain ⟨v, e, h, rfl⟩ := (law_spec hl).ok
  exact ⟨e, h⟩
end LW
namespace LW
open PySem PySem.Spec PyProof.Rows L2 VE
theorem kit_self {K : PySem.W.Frag} {C : Addr} : PySem.W.kitOne K (.ref C) (.ref C) = some true := by
  unfold PySem.W.kitOne
  rw [if_pos (by simp)]
theorem cls_sub {K : PySem.W.Frag} {t : Value} {C : Addr} {b : Bool} (h1 : PySem.W.isClsIn K C = true) (h2 : PySem.W.typeIn K (.ref C) = some (.type "type")) (h3 : PySem.W.subIn K t (.ref C) = some b) : PySem.W.kitCls K t (.ref C) = some b := by
  have h1' : (PySem.W.clsIn K C).isSome = true := h1
  show (if ((PySem.W.clsIn K C).isSome && PySem.W.typeIn K (.ref C) == some (.type "type")) = true then PySem.W.subIn K t (.ref C) else none) = some b
  rw [if_pos (by rw [h1', h2]; rfl)]
  exact h3
theorem kit_ty {K : PySem.W.Frag} {T : String} {C : Addr} {b : Bool} (h1 : PySem.W.isClsIn K C = true) (h2 : PySem.W.typeIn K (.ref C) = some (.type "type")) (h3 : PySem.W.subIn K (.type T) (.ref C) = some b) : PySem.W.kitOne K (.type T) (.ref C) = some b := by
  unfold PySem.W.kitOne
  rw [if_neg (by simp)]
  exact cls_sub h1 h2 h3
theorem kit_ref {K : PySem.W.Frag} {D C : Addr} {b : Bool} (h1 : PySem.W.isClsIn K C = true) (h2 : PySem.W.typeIn K (.ref C) = some (.type "type")) (h3 : PySem.W.subIn K (.ref D) (.ref C) = some b) (h4 : PySem.W.subIn K (.ref D) (.ref D) = some true) : PySem.W.kitOne K (.ref D) (.ref C) = some b := by
  by_cases z : D = C
  · subst z
    rw [h4] at h3
    cases h3
    exact kit_self
  · unfold PySem.W.kitOne
    rw [if_neg (by simpa using z)]
    exact cls_sub h1 h2 h3
theorem mroO_of {K : PySem.W.Frag} {C : Addr} {o : Value} {od : Option Addr} {cd : ClassData} {sl : Array (Option Value)} (h : K.lookup C = some ⟨o, od, .cls cd, sl⟩) (hm : cd.mro = [.ref C, .type "object"]) : MroO K C := ⟨cd, by unfold PySem.W.clsIn; rw [h], hm⟩
theorem exm_sub {K : PySem.W.Frag} {D C : Addr} {b : Bool} (h0 : PySem.W.subIn K (.ref C) (.type "BaseException") = some true) (h1 : PySem.W.isClsIn K C = true) (h2 : PySem.W.typeIn K (.ref C) = some (.type "type")) (h3 : PySem.W.subIn K (.ref D) (.ref C) = some b) : PySem.W.exmOne K (.ref D) (.ref C) = some b := by
  unfold PySem.W.exmOne
  rw [if_pos (by rw [h0]; rfl)]
  exact cls_sub h1 h2 h3
theorem all_mk {l : PySem.W.OpenLaw} {w : World} {K : PySem.W.Frag} {h : Heap} {mg : Str → Option Value} {fa f1 f2 f3 f4 f5 f8 f20 f18 f21 f22 f23 f24 f25 f28 f29 f33 f34 f35 f36 f37 f38 f11 f12 f15 f13 f14 C0 C1 C2 C3 C4 : Addr} (X : K.In h) (G : h.Ns mainGlobals mg) (hfa : mg "law" = some (.ref fa))
    {od1 an1 : Option Addr} {sl1 : Array (Option Value)} {oc1 kV1 dc1 pm1 cd1 ct1 : Value}
    {od2 an2 : Option Addr} {sl2 : Array (Option Value)} {oc2 kV2 dc2 pm2 cd2 ct2 : Value}
    {od3 an3 : Option Addr} {sl3 : Array (Option Value)} {oc3 kV3 dc3 pm3 cd3 ct3 : Value}
    {od4 an4 : Option Addr} {sl4 : Array (Option Value)} {oc4 kV4 dc4 pm4 cd4 ct4 : Value}
    {od5 an5 : Option Addr} {sl5 : Array (Option Value)} {oc5 kV5 dc5 pm5 cd5 ct5 : Value}
    {od8 an8 : Option Addr} {sl8 : Array (Option Value)} {oc8 kV8 dc8 pm8 cd8 ct8 : Value}
    {od20 an20 : Option Addr} {sl20 : Array (Option Value)} {oc20 kV20 dc20 pm20 cd20 ct20 : Value}
    {od18 an18 : Option Addr} {sl18 : Array (Option Value)} {oc18 kV18 dc18 pm18 cd18 ct18 : Value}
    {od21 an21 : Option Addr} {sl21 : Array (Option Value)} {oc21 kV21 dc21 pm21 cd21 ct21 : Value}
    {od22 an22 : Option Addr} {sl22 : Array (Option Value)} {oc22 kV22 dc22 pm22 cd22 ct22 : Value}
    {od23 an23 : Option Addr} {sl23 : Array (Option Value)} {oc23 kV23 dc23 pm23 cd23 ct23 : Value}
    {od24 an24 : Option Addr} {sl24 : Array (Option Value)} {oc24 kV24 dc24 pm24 cd24 ct24 : Value}
    {od25 an25 : Option Addr} {sl25 : Array (Option Value)} {oc25 kV25 dc25 pm25 cd25 ct25 : Value}
    {od28 an28 : Option Addr} {sl28 : Array (Option Value)} {oc28 kV28 dc28 pm28 cd28 ct28 : Value}
    {od29 an29 : Option Addr} {sl29 : Array (Option Value)} {oc29 kV29 dc29 pm29 cd29 ct29 : Value}
    {od33 an33 : Option Addr} {sl33 : Array (Option Value)} {oc33 kV33 dc33 pm33 cd33 ct33 : Value}
    {od34 an34 : Option Addr} {sl34 : Array (Option Value)} {oc34 kV34 dc34 pm34 cd34 ct34 : Value}
    {od35 an35 : Option Addr} {sl35 : Array (Option Value)} {oc35 kV35 dc35 pm35 cd35 ct35 : Value}
    {od36 an36 : Option Addr} {sl36 : Array (Option Value)} {oc36 kV36 dc36 pm36 cd36 ct36 : Value}
    {od37 an37 : Option Addr} {sl37 : Array (Option Value)} {oc37 kV37 dc37 pm37 cd37 ct37 : Value}
    {od38 an38 : Option Addr} {sl38 : Array (Option Value)} {oc38 kV38 dc38 pm38 cd38 ct38 : Value}
    {nm3 q3 : Str} {N3 : Addr} {bs3 : List Value} {sn3 : List Str} {sub3 : List Value} {ab3 : Bool} {col3 : Option Bool} {dd3 : Option Addr} {m03 m13 m23 m33 m53 : Option Value}
    {nm1 q1 : Str} {N1 : Addr} {bs1 : List Value} {sn1 : List Str} {sub1 : List Value} {ab1 : Bool} {col1 : Option Bool} {dd1 : Option Addr} {m01 m11 m21 m31 m51 : Option Value}
    {nm2 q2 : Str} {N2 : Addr} {bs2 : List Value} {sn2 : List Str} {sub2 : List Value} {ab2 : Bool} {col2 : Option Bool} {dd2 : Option Addr} {m02 m12 m22 m32 m52 : Option Value}
    {t_LETTERS : Tok}
    (aC0 : PySem.W.nsIn K mainGlobals "TalkError" = some (some (.ref C0)))
    (aC1 : PySem.W.nsIn K mainGlobals "InvalidName" = some (some (.ref C1)))
    (aC2 : PySem.W.nsIn K mainGlobals "InvalidStep" = some (some (.ref C2)))
    (aC3 : PySem.W.nsIn K mainGlobals "DoubleStep" = some (some (.ref C3)))
    (aC4 : PySem.W.nsIn K mainGlobals "Service" = some (some (.ref C4)))
    (xi3 : PySem.W.findIn K (.ref C3) "__init__" = some (some (.ref f38)))
    (xi1 : PySem.W.findIn K (.ref C1) "__init__" = some (some (.ref f38)))
    (xi2 : PySem.W.findIn K (.ref C2) "__init__" = some (some (.ref f38)))
    (a1 : PySem.W.nsIn K mainGlobals "is_name" = some (some (.ref f1)))
    (a2 : PySem.W.nsIn K mainGlobals "check_name" = some (some (.ref f2)))
    (a3 : PySem.W.nsIn K mainGlobals "check_rooms" = some (some (.ref f3)))
    (a4 : PySem.W.nsIn K mainGlobals "room_kinds" = some (some (.ref f4)))
    (a5 : PySem.W.nsIn K mainGlobals "least_rooms" = some (some (.ref f5)))
    (a8 : PySem.W.findIn K (.ref C4) "__init__" = some (some (.ref f8)))
    (a20 : PySem.W.nsIn K mainGlobals "next_room" = some (some (.ref f20)))
    (a18 : PySem.W.findIn K (.ref C4) "has" = some (some (.ref f18)))
    (a21 : PySem.W.nsIn K mainGlobals "_law_mint" = some (some (.ref f21)))
    (a22 : PySem.W.nsIn K mainGlobals "_law_coin" = some (some (.ref f22)))
    (a23 : PySem.W.nsIn K mainGlobals "_law_labels" = some (some (.ref f23)))
    (a24 : PySem.W.nsIn K mainGlobals "_law_room_steps" = some (some (.ref f24)))
    (a25 : PySem.W.nsIn K mainGlobals "_law_plan_of" = some (some (.ref f25)))
    (a28 : PySem.W.nsIn K mainGlobals "_law_made_service" = some (some (.ref f28)))
    (a29 : PySem.W.nsIn K mainGlobals "_law_goal" = some (some (.ref f29)))
    (a33 : PySem.W.nsIn K mainGlobals "_law_has_row" = some (some (.ref f33)))
    (a34 : PySem.W.nsIn K mainGlobals "_law_walk" = some (some (.ref f34)))
    (a35 : PySem.W.nsIn K mainGlobals "_law_bent_row" = some (some (.ref f35)))
    (a36 : PySem.W.nsIn K mainGlobals "_law_fits" = some (some (.ref f36)))
    (a37 : PySem.W.nsIn K mainGlobals "law" = some (some (.ref f37)))
    (a11 : PySem.W.findIn K (.ref C4) "__len__" = some (some (.ref f11)))
    (a12 : PySem.W.findIn K (.ref C4) "__eq__" = some (some (.ref f12)))
    (a15 : PySem.W.findIn K (.ref C4) "__invert__" = some (some (.ref f15)))
    (a13 : PySem.W.findIn K (.ref C4) "__rshift__" = some (some (.ref f13)))
    (a14 : PySem.W.findIn K (.ref C4) "__or__" = some (some (.ref f14)))
    (l1 : K.lookup f1 = some ⟨oc1, od1, .func (PySem.W.fnOf "is_name" "is_name" (defArgs s_is_name) (defBody s_is_name) (defScope s_is_name) .none kV1 dc1 pm1 an1 cd1 ct1), sl1⟩)
    (c1 : PySem.W.codeIn K cd1 "is_name" = true)
    (k1 : PySem.W.keepIn K (.ref f1) = true)
    (l2 : K.lookup f2 = some ⟨oc2, od2, .func (PySem.W.fnOf "check_name" "check_name" (defArgs s_check_name) (defBody s_check_name) (defScope s_check_name) .none kV2 dc2 pm2 an2 cd2 ct2), sl2⟩)
    (c2 : PySem.W.codeIn K cd2 "check_name" = true)
    (k2 : PySem.W.keepIn K (.ref f2) = true)
    (l3 : K.lookup f3 = some ⟨oc3, od3, .func (PySem.W.fnOf "check_rooms" "check_rooms" (defArgs s_check_rooms) (defBody s_check_rooms) (defScope s_check_rooms) .none kV3 dc3 pm3 an3 cd3 ct3), sl3⟩)
    (c3 : PySem.W.codeIn K cd3 "check_rooms" = true)
    (k3 : PySem.W.keepIn K (.ref f3) = true)
    (l4 : K.lookup f4 = some ⟨oc4, od4, .func (PySem.W.fnOf "room_kinds" "room_kinds" (defArgs s_room_kinds) (defBody s_room_kinds) (defScope s_room_kinds) .none kV4 dc4 pm4 an4 cd4 ct4), sl4⟩)
    (c4 : PySem.W.codeIn K cd4 "room_kinds" = true)
    (k4 : PySem.W.keepIn K (.ref f4) = true)
    (l5 : K.lookup f5 = some ⟨oc5, od5, .func (PySem.W.fnOf "least_rooms" "least_rooms" (defArgs s_least_rooms) (defBody s_least_rooms) (defScope s_least_rooms) .none kV5 dc5 pm5 an5 cd5 ct5), sl5⟩)
    (c5 : PySem.W.codeIn K cd5 "least_rooms" = true)
    (k5 : PySem.W.keepIn K (.ref f5) = true)
    (i8 : PySem.W.isFn K (.ref f8) = true)
    (l8 : K.lookup f8 = some ⟨oc8, od8, .func (PySem.W.fnOf "__init__" "Service.__init__" (defArgs s_Service___init) (defBody s_Service___init) (defScope s_Service___init) .none kV8 dc8 pm8 an8 cd8 ct8), sl8⟩)
    (c8 : PySem.W.codeIn K cd8 "Service.__init__" = true)
    (k8 : PySem.W.keepIn K (.ref f8) = true)
    (l20 : K.lookup f20 = some ⟨oc20, od20, .func (PySem.W.fnOf "next_room" "next_room" (defArgs s_next_room) (defBody s_next_room) (defScope s_next_room) .none kV20 dc20 pm20 an20 cd20 ct20), sl20⟩)
    (c20 : PySem.W.codeIn K cd20 "next_room" = true)
    (k20 : PySem.W.keepIn K (.ref f20) = true)
    (i18 : PySem.W.isFn K (.ref f18) = true)
    (l18 : K.lookup f18 = some ⟨oc18, od18, .func (PySem.W.fnOf "has" "Service.has" (defArgs s_Service_has) (defBody s_Service_has) (defScope s_Service_has) .none kV18 dc18 pm18 an18 cd18 ct18), sl18⟩)
    (c18 : PySem.W.codeIn K cd18 "Service.has" = true)
    (k18 : PySem.W.keepIn K (.ref f18) = true)
    (l21 : K.lookup f21 = some ⟨oc21, od21, .func (PySem.W.fnOf "_law_mint" "_law_mint" (defArgs s_l_mint) (defBody s_l_mint) (defScope s_l_mint) .none kV21 dc21 pm21 an21 cd21 ct21), sl21⟩)
    (c21 : PySem.W.codeIn K cd21 "_law_mint" = true)
    (k21 : PySem.W.keepIn K (.ref f21) = true)
    (l22 : K.lookup f22 = some ⟨oc22, od22, .func (PySem.W.fnOf "_law_coin" "_law_coin" (defArgs s_l_coin) (defBody s_l_coin) (defScope s_l_coin) .none kV22 dc22 pm22 an22 cd22 ct22), sl22⟩)
    (c22 : PySem.W.codeIn K cd22 "_law_coin" = true)
    (k22 : PySem.W.keepIn K (.ref f22) = true)
    (l23 : K.lookup f23 = some ⟨oc23, od23, .func (PySem.W.fnOf "_law_labels" "_law_labels" (defArgs s_l_labels) (defBody s_l_labels) (defScope s_l_labels) .none kV23 dc23 pm23 an23 cd23 ct23), sl23⟩)
    (c23 : PySem.W.codeIn K cd23 "_law_labels" = true)
    (k23 : PySem.W.keepIn K (.ref f23) = true)
    (l24 : K.lookup f24 = some ⟨oc24, od24, .func (PySem.W.fnOf "_law_room_steps" "_law_room_steps" (defArgs s_l_room_steps) (defBody s_l_room_steps) (defScope s_l_room_steps) .none kV24 dc24 pm24 an24 cd24 ct24), sl24⟩)
    (c24 : PySem.W.codeIn K cd24 "_law_room_steps" = true)
    (k24 : PySem.W.keepIn K (.ref f24) = true)
    (l25 : K.lookup f25 = some ⟨oc25, od25, .func (PySem.W.fnOf "_law_plan_of" "_law_plan_of" (defArgs s_l_plan_of) (defBody s_l_plan_of) (defScope s_l_plan_of) .none kV25 dc25 pm25 an25 cd25 ct25), sl25⟩)
    (c25 : PySem.W.codeIn K cd25 "_law_plan_of" = true)
    (k25 : PySem.W.keepIn K (.ref f25) = true)
    (l28 : K.lookup f28 = some ⟨oc28, od28, .func (PySem.W.fnOf "_law_made_service" "_law_made_service" (defArgs s_l_made_service) (defBody s_l_made_service) (defScope s_l_made_service) .none kV28 dc28 pm28 an28 cd28 ct28), sl28⟩)
    (c28 : PySem.W.codeIn K cd28 "_law_made_service" = true)
    (k28 : PySem.W.keepIn K (.ref f28) = true)
    (l29 : K.lookup f29 = some ⟨oc29, od29, .func (PySem.W.fnOf "_law_goal" "_law_goal" (defArgs s_l_goal) (defBody s_l_goal) (defScope s_l_goal) .none kV29 dc29 pm29 an29 cd29 ct29), sl29⟩)
    (c29 : PySem.W.codeIn K cd29 "_law_goal" = true)
    (k29 : PySem.W.keepIn K (.ref f29) = true)
    (l33 : K.lookup f33 = some ⟨oc33, od33, .func (PySem.W.fnOf "_law_has_row" "_law_has_row" (defArgs s_l_has_row) (defBody s_l_has_row) (defScope s_l_has_row) .none kV33 dc33 pm33 an33 cd33 ct33), sl33⟩)
    (c33 : PySem.W.codeIn K cd33 "_law_has_row" = true)
    (k33 : PySem.W.keepIn K (.ref f33) = true)
    (l34 : K.lookup f34 = some ⟨oc34, od34, .func (PySem.W.fnOf "_law_walk" "_law_walk" (defArgs s_l_walk) (defBody s_l_walk) (defScope s_l_walk) .none kV34 dc34 pm34 an34 cd34 ct34), sl34⟩)
    (c34 : PySem.W.codeIn K cd34 "_law_walk" = true)
    (k34 : PySem.W.keepIn K (.ref f34) = true)
    (l35 : K.lookup f35 = some ⟨oc35, od35, .func (PySem.W.fnOf "_law_bent_row" "_law_bent_row" (defArgs s_l_bent_row) (defBody s_l_bent_row) (defScope s_l_bent_row) .none kV35 dc35 pm35 an35 cd35 ct35), sl35⟩)
    (c35 : PySem.W.codeIn K cd35 "_law_bent_row" = true)
    (k35 : PySem.W.keepIn K (.ref f35) = true)
    (l36 : K.lookup f36 = some ⟨oc36, od36, .func (PySem.W.fnOf "_law_fits" "_law_fits" (defArgs s_l_fits) (defBody s_l_fits) (defScope s_l_fits) .none kV36 dc36 pm36 an36 cd36 ct36), sl36⟩)
    (c36 : PySem.W.codeIn K cd36 "_law_fits" = true)
    (k36 : PySem.W.keepIn K (.ref f36) = true)
    (l37 : K.lookup f37 = some ⟨oc37, od37, .func (PySem.W.fnOf "law" "law" (defArgs s_lawdef) (defBody s_lawdef) (defScope s_lawdef) .none kV37 dc37 pm37 an37 cd37 ct37), sl37⟩)
    (c37 : PySem.W.codeIn K cd37 "law" = true)
    (k37 : PySem.W.keepIn K (.ref f37) = true)
    (l38 : K.lookup f38 = some ⟨oc38, od38, .func (PySem.W.fnOf "__init__" "TalkError.__init__" (defArgs s_ini) (defBody s_ini) (defScope s_ini) .none kV38 dc38 pm38 an38 cd38 ct38), sl38⟩)
    (c38 : PySem.W.codeIn K cd38 "TalkError.__init__" = true)
    (k38 : PySem.W.keepIn K (.ref f38) = true)
    (i11 : PySem.W.isFn K (.ref f11) = true)
    (i12 : PySem.W.isFn K (.ref f12) = true)
    (i15 : PySem.W.isFn K (.ref f15) = true)
    (i13 : PySem.W.isFn K (.ref f13) = true)
    (i14 : PySem.W.isFn K (.ref f14) = true)
    (pg_4 : PySem.W.plainGet K C4 Str.empty = true)
    (hd_4 : PySem.W.hasDictIn K C4 = true)
    (po_4 : PySem.W.plainOver K C4 = true)
    (sa_4 : PySem.W.findIn K (.ref C4) "__setattr__" = some (some (.builtin "object.__setattr__")))
    (mk_4 : PySem.W.makesIn K C4 = true)
    (kc_4 : PySem.W.keepIn K (.ref C4) = true)
    (ca_4 : PySem.W.findIn K (.ref C4) "__class__" = some (some (.builtin "object.__class__")))
    (mr_4 : PySem.W.mroIn K C4 (.type "object") = some true)
    (nq_4 : PySem.W.findIn K (.ref C4) "__ne__" = some (some (.builtin "object.__ne__")))
    (sf_4 : PySem.W.selfFirst K C4 = true)
    (kt_4_NoneType : PySem.W.subIn K (.type "NoneType") (.ref C4) = some false)
    (kt_4_bool : PySem.W.subIn K (.type "bool") (.ref C4) = some false)
    (kt_4_int : PySem.W.subIn K (.type "int") (.ref C4) = some false)
    (kt_4_str : PySem.W.subIn K (.type "str") (.ref C4) = some false)
    (kt_4_list : PySem.W.subIn K (.type "list") (.ref C4) = some false)
    (kt_4_tuple : PySem.W.subIn K (.type "tuple") (.ref C4) = some false)
    (kt_4_dict : PySem.W.subIn K (.type "dict") (.ref C4) = some false)
    (og : PySem.W.specialIn K (.builtin "object.__class__") "__get__" = some (some (.builtin "getset_descriptor.__get__")))
    (ot : PySem.W.takesIn K (.builtin "object.__class__") = some true)
    (na_4_kept_rooms : PySem.W.findIn K (.ref C4) "kept_rooms" = some none)
    (ti : PySem.W.typeIn K (.ref f38) = some (.type "function"))
    (xl3 : K.lookup C3 = some (excClassObj nm3 q3 C3 N3 bs3 [.ref C0, .type "ValueError", .type "Exception", .type "BaseException", .type "object"] true sn3 sub3 ab3 col3 dd3 m03 m13 m23 m33 m53 "ValueError.__new__"))
    (xs3 : PySem.W.findIn K (.ref C3) "__setattr__" = some (some (.builtin "object.__setattr__")))
    (xb3 : PySem.W.subIn K (.ref C3) (.type "BaseException") = some true)
    (xt3 : PySem.W.typeIn K (.ref C3) = some (.type "type"))
    (xk3 : PySem.W.keepIn K (.ref C3) = true)
    (xv3 : PySem.W.findIn K (.ref C3) "value" = some none)
    (xg3 : PySem.W.findIn K (.ref C3) "__getattribute__" = some (some (.builtin "BaseException.__getattribute__")))
    (xa3 : PySem.W.findIn K (.ref C3) "__getattr__" = some none)
    (xd3 : PySem.W.hasDictIn K C3 = true)
    (xc3 : PySem.W.findIn K (.ref C3) "__class__" = some (some (.builtin "object.__class__")))
    (xm3 : PySem.W.mroIn K C3 (.type "object") = some true)
    (xz3 : PySem.W.subIn K (.ref C3) (.ref C3) = some true)
    (xl1 : K.lookup C1 = some (excClassObj nm1 q1 C1 N1 bs1 [.ref C0, .type "ValueError", .type "Exception", .type "BaseException", .type "object"] true sn1 sub1 ab1 col1 dd1 m01 m11 m21 m31 m51 "ValueError.__new__"))
    (xs1 : PySem.W.findIn K (.ref C1) "__setattr__" = some (some (.builtin "object.__setattr__")))
    (xb1 : PySem.W.subIn K (.ref C1) (.type "BaseException") = some true)
    (xt1 : PySem.W.typeIn K (.ref C1) = some (.type "type"))
    (xk1 : PySem.W.keepIn K (.ref C1) = true)
    (xv1 : PySem.W.findIn K (.ref C1) "value" = some none)
    (xg1 : PySem.W.findIn K (.ref C1) "__getattribute__" = some (some (.builtin "BaseException.__getattribute__")))
    (xa1 : PySem.W.findIn K (.ref C1) "__getattr__" = some none)
    (xd1 : PySem.W.hasDictIn K C1 = true)
    (xc1 : PySem.W.findIn K (.ref C1) "__class__" = some (some (.builtin "object.__class__")))
    (xm1 : PySem.W.mroIn K C1 (.type "object") = some true)
    (xz1 : PySem.W.subIn K (.ref C1) (.ref C1) = some true)
    (xl2 : K.lookup C2 = some (excClassObj nm2 q2 C2 N2 bs2 [.ref C0, .type "ValueError", .type "Exception", .type "BaseException", .type "object"] true sn2 sub2 ab2 col2 dd2 m02 m12 m22 m32 m52 "ValueError.__new__"))
    (xs2 : PySem.W.findIn K (.ref C2) "__setattr__" = some (some (.builtin "object.__setattr__")))
    (xb2 : PySem.W.subIn K (.ref C2) (.type "BaseException") = some true)
    (xt2 : PySem.W.typeIn K (.ref C2) = some (.type "type"))
    (xk2 : PySem.W.keepIn K (.ref C2) = true)
    (xv2 : PySem.W.findIn K (.ref C2) "value" = some none)
    (xg2 : PySem.W.findIn K (.ref C2) "__getattribute__" = some (some (.builtin "BaseException.__getattribute__")))
    (xa2 : PySem.W.findIn K (.ref C2) "__getattr__" = some none)
    (xd2 : PySem.W.hasDictIn K C2 = true)
    (xc2 : PySem.W.findIn K (.ref C2) "__class__" = some (some (.builtin "object.__class__")))
    (xm2 : PySem.W.mroIn K C2 (.type "object") = some true)
    (xz2 : PySem.W.subIn K (.ref C2) (.ref C2) = some true)
    (ic4 : PySem.W.isClsIn K C4 = true)
    (ty4 : PySem.W.typeIn K (.ref C4) = some (.type "type"))
    (z_abs : PySem.W.nsIn K mainGlobals "abs" = some none)
    (z_all : PySem.W.nsIn K mainGlobals "all" = some none)
    (z_int : PySem.W.nsIn K mainGlobals "int" = some none)
    (z_len : PySem.W.nsIn K mainGlobals "len" = some none)
    (z_list : PySem.W.nsIn K mainGlobals "list" = some none)
    (z_max : PySem.W.nsIn K mainGlobals "max" = some none)
    (z_min : PySem.W.nsIn K mainGlobals "min" = some none)
    (z_range : PySem.W.nsIn K mainGlobals "range" = some none)
    (z_repr : PySem.W.nsIn K mainGlobals "repr" = some none)
    (z_set : PySem.W.nsIn K mainGlobals "set" = some none)
    (z_sorted : PySem.W.nsIn K mainGlobals "sorted" = some none)
    (z_tuple : PySem.W.nsIn K mainGlobals "tuple" = some none)
    (s_LETTERS : PySem.W.nsIn K mainGlobals "LETTERS" = some (some (.str "abcdefghijklmnopqrstuvwxyz" t_LETTERS)))
    : ∃ fd : FuncData, (∀ (s : Shared) (v : Value), BindsTo s fd ⟨[v], []⟩ [("script", v)]) ∧ ∀ base : Heap, K.In base → base.Ns mainGlobals mg → FnG l.prog w K mg base 9 fa fd ["script"] (spF ⟨l.prog, w, K, mg⟩ 1 F_lawdef) := by
  have e := hfa.symm.trans (PySem.W.mg_of X G a37)
  cases e
  have F1 := fun_mk (st := s_is_name) l1 c1 k1
  have F2 := fun_mk (st := s_check_name) l2 c2 k2
  have F3 := fun_mk (st := s_check_rooms) l3 c3 k3
  have F4 := fun_mk (st := s_room_kinds) l4 c4 k4
  have F5 := fun_mk (st := s_least_rooms) l5 c5 k5
  have F8 := fun_mk (st := s_Service___init) l8 c8 k8
  have F20 := fun_mk (st := s_next_room) l20 c20 k20
  have F18 := fun_mk (st := s_Service_has) l18 c18 k18
  have F21 := fun_mk (st := s_l_mint) l21 c21 k21
  have F22 := fun_mk (st := s_l_coin) l22 c22 k22
  have F23 := fun_mk (st := s_l_labels) l23 c23 k23
  have F24 := fun_mk (st := s_l_room_steps) l24 c24 k24
  have F25 := fun_mk (st := s_l_plan_of) l25 c25 k25
  have F28 := fun_mk (st := s_l_made_service) l28 c28 k28
  have F29 := fun_mk (st := s_l_goal) l29 c29 k29
  have F33 := fun_mk (st := s_l_has_row) l33 c33 k33
  have F34 := fun_mk (st := s_l_walk) l34 c34 k34
  have F35 := fun_mk (st := s_l_bent_row) l35 c35 k35
  have F36 := fun_mk (st := s_l_fits) l36 c36 k36
  have F37 := fun_mk (st := s_lawdef) l37 c37 k37
  have F38 := fun_mk (st := s_ini) l38 c38 k38
  have T : TX K mg (fun n => ([fa, f1, f2, f3, f4, f5, fa, fa, f8, fa, fa, f11, f12, f13, f14, f15, fa, fa, f18, fa, f20, f21, f22, f23, f24, f25, fa, fa, f28, f29, fa, fa, fa, f33, f34, f35, f36, fa, f38] : List Addr).getD n fa) (fun n => ([C0, C1, C2, C3, C4] : List Addr).getD n C0) (fun n => ([(PySem.W.fnOf "law" "law" (defArgs s_lawdef) (defBody s_lawdef) (defScope s_lawdef) .none kV37 dc37 pm37 an37 cd37 ct37), (PySem.W.fnOf "is_name" "is_name" (defArgs s_is_name) (defBody s_is_name) (defScope s_is_name) .none kV1 dc1 pm1 an1 cd1 ct1), (PySem.W.fnOf "check_name" "check_name" (defArgs s_check_name) (defBody s_check_name) (defScope s_check_name) .none kV2 dc2 pm2 an2 cd2 ct2), (PySem.W.fnOf "check_rooms" "check_rooms" (defArgs s_check_rooms) (defBody s_check_rooms) (defScope s_check_rooms) .none kV3 dc3 pm3 an3 cd3 ct3), (PySem.W.fnOf "room_kinds" "room_kinds" (defArgs s_room_kinds) (defBody s_room_kinds) (defScope s_room_kinds) .none kV4 dc4 pm4 an4 cd4 ct4), (PySem.W.fnOf "least_rooms" "least_rooms" (defArgs s_least_rooms) (defBody s_least_rooms) (defScope s_least_rooms) .none kV5 dc5 pm5 an5 cd5 ct5), (PySem.W.fnOf "law" "law" (defArgs s_lawdef) (defBody s_lawdef) (defScope s_lawdef) .none kV37 dc37 pm37 an37 cd37 ct37), (PySem.W.fnOf "law" "law" (defArgs s_lawdef) (defBody s_lawdef) (defScope s_lawdef) .none kV37 dc37 pm37 an37 cd37 ct37), (PySem.W.fnOf "__init__" "Service.__init__" (defArgs s_Service___init) (defBody s_Service___init) (defScope s_Service___init) .none kV8 dc8 pm8 an8 cd8 ct8), (PySem.W.fnOf "law" "law" (defArgs s_lawdef) (defBody s_lawdef) (defScope s_lawdef) .none kV37 dc37 pm37 an37 cd37 ct37), (PySem.W.fnOf "law" "law" (defArgs s_lawdef) (defBody s_lawdef) (defScope s_lawdef) .none kV37 dc37 pm37 an37 cd37 ct37), (PySem.W.fnOf "law" "law" (defArgs s_lawdef) (defBody s_lawdef) (defScope s_lawdef) .none kV37 dc37 pm37 an37 cd37 ct37), (PySem.W.fnOf "law" "law" (defArgs s_lawdef) (defBody s_lawdef) (defScope s_lawdef) .none kV37 dc37 pm37 an37 cd37 ct37), (PySem.W.fnOf "law" "law" (defArgs s_lawdef) (defBody s_lawdef) (defScope s_lawdef) .none kV37 dc37 pm37 an37 cd37 ct37), (PySem.W.fnOf "law" "law" (defArgs s_lawdef) (defBody s_lawdef) (defScope s_lawdef) .none kV37 dc37 pm37 an37 cd37 ct37), (PySem.W.fnOf "law" "law" (defArgs s_lawdef) (defBody s_lawdef) (defScope s_lawdef) .none kV37 dc37 pm37 an37 cd37 ct37), (PySem.W.fnOf "law" "law" (defArgs s_lawdef) (defBody s_lawdef) (defScope s_lawdef) .none kV37 dc37 pm37 an37 cd37 ct37), (PySem.W.fnOf "law" "law" (defArgs s_lawdef) (defBody s_lawdef) (defScope s_lawdef) .none kV37 dc37 pm37 an37 cd37 ct37), (PySem.W.fnOf "has" "Service.has" (defArgs s_Service_has) (defBody s_Service_has) (defScope s_Service_has) .none kV18 dc18 pm18 an18 cd18 ct18), (PySem.W.fnOf "law" "law" (defArgs s_lawdef) (defBody s_lawdef) (defScope s_lawdef) .none kV37 dc37 pm37 an37 cd37 ct37), (PySem.W.fnOf "next_room" "next_room" (defArgs s_next_room) (defBody s_next_room) (defScope s_next_room) .none kV20 dc20 pm20 an20 cd20 ct20), (PySem.W.fnOf "_law_mint" "_law_mint" (defArgs s_l_mint) (defBody s_l_mint) (defScope s_l_mint) .none kV21 dc21 pm21 an21 cd21 ct21), (PySem.W.fnOf "_law_coin" "_law_coin" (defArgs s_l_coin) (defBody s_l_coin) (defScope s_l_coin) .none kV22 dc22 pm22 an22 cd22 ct22), (PySem.W.fnOf "_law_labels" "_law_labels" (defArgs s_l_labels) (defBody s_l_labels) (defScope s_l_labels) .none kV23 dc23 pm23 an23 cd23 ct23), (PySem.W.fnOf "_law_room_steps" "_law_room_steps" (defArgs s_l_room_steps) (defBody s_l_room_steps) (defScope s_l_room_steps) .none kV24 dc24 pm24 an24 cd24 ct24), (PySem.W.fnOf "_law_plan_of" "_law_plan_of" (defArgs s_l_plan_of) (defBody s_l_plan_of) (defScope s_l_plan_of) .none kV25 dc25 pm25 an25 cd25 ct25), (PySem.W.fnOf "law" "law" (defArgs s_lawdef) (defBody s_lawdef) (defScope s_lawdef) .none kV37 dc37 pm37 an37 cd37 ct37), (PySem.W.fnOf "law" "law" (defArgs s_lawdef) (defBody s_lawdef) (defScope s_lawdef) .none kV37 dc37 pm37 an37 cd37 ct37), (PySem.W.fnOf "_law_made_service" "_law_made_service" (defArgs s_l_made_service) (defBody s_l_made_service) (defScope s_l_made_service) .none kV28 dc28 pm28 an28 cd28 ct28), (PySem.W.fnOf "_law_goal" "_law_goal" (defArgs s_l_goal) (defBody s_l_goal) (defScope s_l_goal) .none kV29 dc29 pm29 an29 cd29 ct29), (PySem.W.fnOf "law" "law" (defArgs s_lawdef) (defBody s_lawdef) (defScope s_lawdef) .none kV37 dc37 pm37 an37 cd37 ct37), (PySem.W.fnOf "law" "law" (defArgs s_lawdef) (defBody s_lawdef) (defScope s_lawdef) .none kV37 dc37 pm37 an37 cd37 ct37), (PySem.W.fnOf "law" "law" (defArgs s_lawdef) (defBody s_lawdef) (defScope s_lawdef) .none kV37 dc37 pm37 an37 cd37 ct37), (PySem.W.fnOf "_law_has_row" "_law_has_row" (defArgs s_l_has_row) (defBody s_l_has_row) (defScope s_l_has_row) .none kV33 dc33 pm33 an33 cd33 ct33), (PySem.W.fnOf "_law_walk" "_law_walk" (defArgs s_l_walk) (defBody s_l_walk) (defScope s_l_walk) .none kV34 dc34 pm34 an34 cd34 ct34), (PySem.W.fnOf "_law_bent_row" "_law_bent_row" (defArgs s_l_bent_row) (defBody s_l_bent_row) (defScope s_l_bent_row) .none kV35 dc35 pm35 an35 cd35 ct35), (PySem.W.fnOf "_law_fits" "_law_fits" (defArgs s_l_fits) (defBody s_l_fits) (defScope s_l_fits) .none kV36 dc36 pm36 an36 cd36 ct36), (PySem.W.fnOf "law" "law" (defArgs s_lawdef) (defBody s_lawdef) (defScope s_lawdef) .none kV37 dc37 pm37 an37 cd37 ct37), (PySem.W.fnOf "__init__" "TalkError.__init__" (defArgs s_ini) (defBody s_ini) (defScope s_ini) .none kV38 dc38 pm38 an38 cd38 ct38)] : List FuncData).getD n (PySem.W.fnOf "law" "law" (defArgs s_lawdef) (defBody s_lawdef) (defScope s_lawdef) .none kV37 dc37 pm37 an37 cd37 ct37)) := {
    n_abs := PySem.W.mg_none_of X G z_abs
    n_all := PySem.W.mg_none_of X G z_all
    n_int := PySem.W.mg_none_of X G z_int
    n_len := PySem.W.mg_none_of X G z_len
    n_list := PySem.W.mg_none_of X G z_list
    n_max := PySem.W.mg_none_of X G z_max
    n_min := PySem.W.mg_none_of X G z_min
    n_range := PySem.W.mg_none_of X G z_range
    n_repr := PySem.W.mg_none_of X G z_repr
    n_set := PySem.W.mg_none_of X G z_set
    n_sorted := PySem.W.mg_none_of X G z_sorted
    n_tuple := PySem.W.mg_none_of X G z_tuple
    c_LETTERS := ⟨_, PySem.W.mg_of X G s_LETTERS⟩
    f_ini := F38
    g_TalkError := PySem.W.mg_of X G aC0
    g_DoubleStep := PySem.W.mg_of X G aC3
    er_DoubleStep := ⟨PySem.W.mg_of X G aC3, ⟨⟨_, _, _, _, _, _, _, _, _, _, _, _, _, _, _, xl3, rfl⟩, xs3, xb3, xt3, xk3⟩, xi3, ti, xv3, ⟨xg3, xa3, xb3, xd3⟩, ⟨xg3, xa3, xb3, xd3, xc3, og, ot, xm3⟩⟩
    g_InvalidName := PySem.W.mg_of X G aC1
    er_InvalidName := ⟨PySem.W.mg_of X G aC1, ⟨⟨_, _, _, _, _, _, _, _, _, _, _, _, _, _, _, xl1, rfl⟩, xs1, xb1, xt1, xk1⟩, xi1, ti, xv1, ⟨xg1, xa1, xb1, xd1⟩, ⟨xg1, xa1, xb1, xd1, xc1, og, ot, xm1⟩⟩
    g_InvalidStep := PySem.W.mg_of X G aC2
    er_InvalidStep := ⟨PySem.W.mg_of X G aC2, ⟨⟨_, _, _, _, _, _, _, _, _, _, _, _, _, _, _, xl2, rfl⟩, xs2, xb2, xt2, xk2⟩, xi2, ti, xv2, ⟨xg2, xa2, xb2, xd2⟩, ⟨xg2, xa2, xb2, xd2, xc2, og, ot, xm2⟩⟩
    g_Service := PySem.W.mg_of X G aC4
    cl_Service := ⟨pg_4, hd_4, po_4, sa_4⟩
    mk_Service := ⟨mk_4, a8, i8, kc_4⟩
    is_Service := ⟨kit_ty ic4 ty4 kt_4_NoneType, kit_ty ic4 ty4 kt_4_bool, kit_ty ic4 ty4 kt_4_int, kit_ty ic4 ty4 kt_4_str, kit_ty ic4 ty4 kt_4_list, kit_ty ic4 ty4 kt_4_tuple, kit_ty ic4 ty4 kt_4_dict, fun c Ca b hb hm => by
      unfold isT at hb
      split at hb
      · rename_i z
        subst z
        cases hb
        rw [PySem.W.mg_of X G aC4] at hm; cases hm
        exact ⟨⟨⟨pg_4, hd_4, po_4, sa_4⟩, ca_4, og, ot, mr_4⟩, kit_self⟩
      · cases hb⟩
    sl_Service := a11
    fl_Service := i11
    se_Service := a12
    fe_Service := i12
    nq_Service := nq_4
    om_Service := mr_4
    sf_Service := sf_4
    si_Service := a15
    fi_Service := i15
    sr_Service := a13
    fr_Service := i13
    so_Service := a14
    fo_Service := i14
    me_has := ⟨a18, i18, k18⟩
    na_Service_kept_rooms := na_4_kept_rooms
    f_is_name := F1
    g_is_name := PySem.W.mg_of X G a1
    f_check_name := F2
    g_check_name := PySem.W.mg_of X G a2
    f_check_rooms := F3
    g_check_rooms := PySem.W.mg_of X G a3
    f_room_kinds := F4
    g_room_kinds := PySem.W.mg_of X G a4
    f_least_rooms := F5
    g_least_rooms := PySem.W.mg_of X G a5
    f_Service___init := F8
    f_next_room := F20
    g_next_room := PySem.W.mg_of X G a20
    f_Service_has := F18
    f_l_mint := F21
    g_l_mint := PySem.W.mg_of X G a21
    f_l_coin := F22
    g_l_coin := PySem.W.mg_of X G a22
    f_l_labels := F23
    g_l_labels := PySem.W.mg_of X G a23
    f_l_room_steps := F24
    g_l_room_steps := PySem.W.mg_of X G a24
    f_l_plan_of := F25
    g_l_plan_of := PySem.W.mg_of X G a25
    f_l_made_service := F28
    g_l_made_service := PySem.W.mg_of X G a28
    f_l_goal := F29
    g_l_goal := PySem.W.mg_of X G a29
    f_l_has_row := F33
    g_l_has_row := PySem.W.mg_of X G a33
    f_l_walk := F34
    g_l_walk := PySem.W.mg_of X G a34
    f_l_bent_row := F35
    g_l_bent_row := PySem.W.mg_of X G a35
    f_l_fits := F36
    g_l_fits := PySem.W.mg_of X G a36
    f_lawdef := F37
    g_lawdef := PySem.W.mg_of X G a37
  }
  exact ⟨_, fun s v => .of_eq rfl, fun base _ _ => ok_lawdef T⟩
end LW
namespace LW
open PySem PySem.Spec PyProof.Rows L2 VE
theorem Rep.scr {C : Wd} {H : Hp} {a : Addr} {ns : List Int} (h : SqL C.K H a (ns.map V.int)) : Rep C H H [some (.ref a)] [some (.fz (.scr ns))] :=
  ⟨Ex.refl H, rfl, fun i b e => by
    cases i with
    | succ i => simp at e
    | zero =>
      simp at e
      subst e
      exact ⟨_, rfl, by unfold RB; rw [if_neg (fun z => by cases z)]; show VE.Rp C H (.scr ns) (V.ref a); simp only [VE.Rp]; exact ⟨a, rfl, h⟩⟩, fun i j bi bj a c x e1 e2 e3 e4 _ _ _ _ => by
    cases i with
    | succ i => simp at e1
    | zero =>
      simp at e1
      subst e1
      cases e3⟩
theorem want {C : Wd} {H : Hp} {a : Addr} {ns : List Int} {F : M Val} (hF : ∃ e, F [some (.fz (.scr ns))] = some (.ok (.fz (.bl true)) e)) (h : SqL C.K H a (ns.map V.int)) : spF C 1 F [.ref a] H (fun v _ => v = .bl true) E0 := by
  obtain ⟨e, he⟩ := hF
  exact ⟨rfl, _, H, _, Rep.scr h, he, fun v H' Hs' _ rv => by simpa [RV, Rp] using rv⟩
theorem walk_ofGK {l : PySem.W.OpenLaw} {n k : Nat} {q : Program} {loose : List Str} {XP : (Str → Option Value) → Heap → Prop} {YP : World → Heap → Prop} {d : DefRec} {K : Params → PySem.W.Frag} {sp : World → PySem.W.Frag → (Str → Option Value) → Sp} {x : Str}
    (most : l.most = some n) (fits : n ≤ sizeLine) (plain : d.params.defaults = []) (room : Room k callerA) (known : ∀ (w : World) (h : Heap), YP w h → (K w.params).In h)
    (F : ∀ (w : World) (mg : Str → Option Value) (fa : Addr) (h : Heap), (K w.params).In h → h.Ns mainGlobals mg → mg d.name = some (.ref fa) →
      ∃ fd : FuncData, (∀ (s : Shared) (u : Value), BindsTo s fd ⟨[u], []⟩ [(x, u)]) ∧ ∀ base : Heap, (K w.params).In base → base.Ns mainGlobals mg → FnG l.prog w (K w.params) mg base k fa fd [x] (sp w (K w.params) mg))
    (want : ∀ (w : World) (K : PySem.W.Frag) (mg : Str → Option Value) (H : Hp) (a : Addr) (ns : List Int), ns.length ≤ n → (∀ z ∈ ns, Builtin.Int.intBits z ≤ 1048576) → SqL K H a (ns.map V.int) → sp w K mg [.ref a] H (fun v _ => v = .bl true) E0) : PySem.W.WalkO q loose XP YP l.row.toRowW d [] (fun f vs => PySem.call f vs) :=
  walk_ofG (sp := fun w mg => sp w (K w.params) mg) most fits plain room known F fun w mg H a ns h1 h2 h3 => want w (K w.params) mg H a ns h1 h2 h3
end LW
open PySem PySem.W PyProof.Rows
set_option pp.maxSteps 400 in
set_option maxRecDepth 100000 in
set_option maxHeartbeats 0 in
theorem PySem.Challenge.cw_emptyfirst_k10_rows_of_steps_holds : PySem.Challenge.rw_emptyfirst_k10_rows_of_steps.Holds := by
  w_on; o_law; k_head; (case hw => w_witness2)
  k_fill
  refine LW.walk_ofGK (l := PySem.Challenge.rw_emptyfirst_k10_rows_of_steps) (n := 63) (k := 9) (x := "script") (sp := fun w K mg => VE.spF ⟨PySem.Challenge.rw_emptyfirst_k10_rows_of_steps.prog, w, K, mg⟩ 1 LW.F_lawdef) rfl (by decide) rfl ⟨rfl, by decide, by decide⟩ (fun w h Y => PySem.W.kIn_of Y) ?F (fun w K mg H a ns hl hb hS => LW.want (LW.lawPlain ns hl hb) hS)
  case F =>
    intro w mg fa h KX G hmg
    replace hmg : mg "law" = some (.ref fa) := hmg
    refine' LW.all_mk KX G hmg ?aC0 ?aC1 ?aC2 ?aC3 ?aC4 ?xi3 ?xi1 ?xi2 ?a1 ?a2 ?a3 ?a4 ?a5 ?a8 ?a20 ?a18 ?a21 ?a22 ?a23 ?a24 ?a25 ?a28 ?a29 ?a33 ?a34 ?a35 ?a36 ?a37 ?a11 ?a12 ?a15 ?a13 ?a14 ?l1 ?c1 ?k1 ?l2 ?c2 ?k2 ?l3 ?c3 ?k3 ?l4 ?c4 ?k4 ?l5 ?c5 ?k5 ?i8 ?l8 ?c8 ?k8 ?l20 ?c20 ?k20 ?i18 ?l18 ?c18 ?k18 ?l21 ?c21 ?k21 ?l22 ?c22 ?k22 ?l23 ?c23 ?k23 ?l24 ?c24 ?k24 ?l25 ?c25 ?k25 ?l28 ?c28 ?k28 ?l29 ?c29 ?k29 ?l33 ?c33 ?k33 ?l34 ?c34 ?k34 ?l35 ?c35 ?k35 ?l36 ?c36 ?k36 ?l37 ?c37 ?k37 ?l38 ?c38 ?k38 ?i11 ?i12 ?i15 ?i13 ?i14 ?pg_4 ?hd_4 ?po_4 ?sa_4 ?mk_4 ?kc_4 ?ca_4 ?mr_4 ?nq_4 ?sf_4 ?kt_4_NoneType ?kt_4_bool ?kt_4_int ?kt_4_str ?kt_4_list ?kt_4_tuple ?kt_4_dict ?og ?ot ?na_4_kept_rooms ?ti ?xl3 ?xs3 ?xb3 ?xt3 ?xk3 ?xv3 ?xg3 ?xa3 ?xd3 ?xc3 ?xm3 ?xz3 ?xl1 ?xs1 ?xb1 ?xt1 ?xk1 ?xv1 ?xg1 ?xa1 ?xd1 ?xc1 ?xm1 ?xz1 ?xl2 ?xs2 ?xb2 ?xt2 ?xk2 ?xv2 ?xg2 ?xa2 ?xd2 ?xc2 ?xm2 ?xz2 ?ic4 ?ty4 ?z_abs ?z_all ?z_int ?z_len ?z_list ?z_max ?z_min ?z_range ?z_repr ?z_set ?z_sorted ?z_tuple ?s_LETTERS
    case aC0 => k_is
    case aC1 => k_is
    case aC2 => k_is
    case aC3 => k_is
    case aC4 => k_is
    case xi3 => k_is
    case xi1 => k_is
    case xi2 => k_is
    case a1 => k_is
    case a2 => k_is
    case a3 => k_is
    case a4 => k_is
    case a5 => k_is
    case a8 => k_is
    case a20 => k_is
    case a18 => k_is
    case a21 => k_is
    case a22 => k_is
    case a23 => k_is
    case a24 => k_is
    case a25 => k_is
    case a28 => k_is
    case a29 => k_is
    case a33 => k_is
    case a34 => k_is
    case a35 => k_is
    case a36 => k_is
    case a37 => k_is
    case a11 => k_is
    case a12 => k_is
    case a15 => k_is
    case a13 => k_is
    case a14 => k_is
    case l1 => k_is
    case c1 => k_is
    case k1 => k_is
    case l2 => k_is
    case c2 => k_is
    case k2 => k_is
    case l3 => k_is
    case c3 => k_is
    case k3 => k_is
    case l4 => k_is
    case c4 => k_is
    case k4 => k_is
    case l5 => k_is
    case c5 => k_is
    case k5 => k_is
    case i8 => k_is
    case l8 => k_is
    case c8 => k_is
    case k8 => k_is
    case l20 => k_is
    case c20 => k_is
    case k20 => k_is
    case i18 => k_is
    case l18 => k_is
    case c18 => k_is
    case k18 => k_is
    case l21 => k_is
    case c21 => k_is
    case k21 => k_is
    case l22 => k_is
    case c22 => k_is
    case k22 => k_is
    case l23 => k_is
    case c23 => k_is
    case k23 => k_is
    case l24 => k_is
    case c24 => k_is
    case k24 => k_is
    case l25 => k_is
    case c25 => k_is
    case k25 => k_is
    case l28 => k_is
    case c28 => k_is
    case k28 => k_is
    case l29 => k_is
    case c29 => k_is
    case k29 => k_is
    case l33 => k_is
    case c33 => k_is
    case k33 => k_is
    case l34 => k_is
    case c34 => k_is
    case k34 => k_is
    case l35 => k_is
    case c35 => k_is
    case k35 => k_is
    case l36 => k_is
    case c36 => k_is
    case k36 => k_is
    case l37 => k_is
    case c37 => k_is
    case k37 => k_is
    case l38 => k_is
    case c38 => k_is
    case k38 => k_is
    case i11 => k_is
    case i12 => k_is
    case i15 => k_is
    case i13 => k_is
    case i14 => k_is
    case pg_4 => k_is
    case hd_4 => k_is
    case po_4 => k_is
    case sa_4 => k_is
    case mk_4 => k_is
    case kc_4 => k_is
    case ca_4 => k_is
    case mr_4 => k_is
    case nq_4 => k_is
    case sf_4 => k_is
    case kt_4_NoneType => k_is
    case kt_4_bool => k_is
    case kt_4_int => k_is
    case kt_4_str => k_is
    case kt_4_list => k_is
    case kt_4_tuple => k_is
    case kt_4_dict => k_is
    case og => k_is
    case ot => k_is
    case na_4_kept_rooms => k_is
    case ti => k_is
    case xl3 => k_is
    case xs3 => k_is
    case xb3 => k_is
    case xt3 => k_is
    case xk3 => k_is
    case xv3 => k_is
    case xg3 => k_is
    case xa3 => k_is
    case xd3 => k_is
    case xc3 => k_is
    case xm3 => k_is
    case xz3 => k_is
    case xl1 => k_is
    case xs1 => k_is
    case xb1 => k_is
    case xt1 => k_is
    case xk1 => k_is
    case xv1 => k_is
    case xg1 => k_is
    case xa1 => k_is
    case xd1 => k_is
    case xc1 => k_is
    case xm1 => k_is
    case xz1 => k_is
    case xl2 => k_is
    case xs2 => k_is
    case xb2 => k_is
    case xt2 => k_is
    case xk2 => k_is
    case xv2 => k_is
    case xg2 => k_is
    case xa2 => k_is
    case xd2 => k_is
    case xc2 => k_is
    case xm2 => k_is
    case xz2 => k_is
    case ic4 => k_is
    case ty4 => k_is
    case z_abs => k_is
    case z_all => k_is
    case z_int => k_is
    case z_len => k_is
    case z_list => k_is
    case z_max => k_is
    case z_min => k_is
    case z_range => k_is
    case z_repr => k_is
    case z_set => k_is
    case z_sorted => k_is
    case z_tuple => k_is
    case s_LETTERS => k_is
