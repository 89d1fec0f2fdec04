import PyProof.Rows.All
import Wide.All
import OpenK.AllK
import Wide.FinOn
import HandS.ForMost
import HandS.ForExc
import HandS.HotCalls
import HandS.Wide
import HandS.TupAny
import HandS.TupSets
import HandS.IsInst
import HandS.Style
import HandS.TupLe
import HandS.SetFor
import HandS.Replace
import HandS.StrMore
import HandS.SortInts
import HandS.Defaults
import HandS.RaiseMore
import HandS.ExcValue
import HandS.ExcIs
import KE.KExcIs
import PyProof.StrBlock2
import KE.GoesEnum
import PyProof.CollectStr
import HandS.NoneIn
import HandS.More
import KE.LtSeq
import KE.KTupSum
import PyProof.EnumMake
import HandS.Conv
import HandS.Zip
import PySem.Challenge.RW_trickproof_k19_contracts
set_option Elab.async false
set_option linter.all false
set_option pp.deepTerms false
set_option pp.deepTerms.threshold 9
set_option pp.maxSteps 4000
set_option maxRecDepth 100000
set_option maxHeartbeats 4000000
namespace Z
open PySem L2
open PySem.W (Frag)
open PySem
/-! ## names by number -/
def clsT : List Str := [("Auction" : Str), ("BadPlay" : Str), ("Beat" : Str), ("Cut" : Str), ("Desk" : Str), ("Even" : Str), ("Flat" : Str), ("Follow" : Str), ("Free" : Str), ("Game" : Str), ("NoCall" : Str), ("NoCard" : Str), ("NoDeal" : Str), ("NoHand" : Str), ("NoPlay" : Str), ("NoRecord" : Str), ("NoRow" : Str), ("NoShare" : Str), ("NoSheet" : Str), ("NoTable" : Str), ("NoView" : Str), ("NotNow" : Str), ("NotYet" : Str), ("Play" : Str), ("Rule" : Str), ("Steps" : Str), ("Table" : Str), ("TooMany" : Str), ("TooMuch" : Str), ("TrickError" : Str), ("View" : Str)]
def attT : List Str := [("__init__" : Str), ("all_cards" : Str), ("allowed" : Str), ("append" : Str), ("asked_of" : Str), ("begins" : Str), ("begun_by" : Str), ("best" : Str), ("bit_length" : Str), ("board" : Str), ("called" : Str), ("calling" : Str), ("calls" : Str), ("clear" : Str), ("contract" : Str), ("count" : Str), ("dealt" : Str), ("dealt_out" : Str), ("duty" : Str), ("extend" : Str), ("find" : Str), ("fits" : Str), ("fitting" : Str), ("game" : Str), ("get" : Str), ("heights" : Str), ("index" : Str), ("insert" : Str), ("is_done" : Str), ("is_over" : Str), ("is_sure" : Str), ("join" : Str), ("keys" : Str), ("made" : Str), ("many_seats" : Str), ("may" : Str), ("now" : Str), ("order" : Str), ("own_duty" : Str), ("pack" : Str), ("partition" : Str), ("passes" : Str), ("place" : Str), ("plain_order" : Str), ("played" : Str), ("playing" : Str), ("pointed" : Str), ("points" : Str), ("pop" : Str), ("put" : Str), ("remove" : Str), ("replace" : Str), ("reverse" : Str), ("rjust" : Str), ("row" : Str), ("rule" : Str), ("said" : Str), ("say" : Str), ("seat_of" : Str), ("seats" : Str), ("split" : Str), ("standing" : Str), ("start" : Str), ("strength" : Str), ("suits" : Str), ("table" : Str), ("taken" : Str), ("text" : Str), ("trick" : Str), ("trump" : Str), ("trump_order" : Str), ("turn" : Str), ("upper" : Str), ("winner" : Str), ("won" : Str), ("word" : Str), ("wrong" : Str)]
def clsN (i : Nat) : Str := clsT.getD (i % 100) "?"
theorem clsN_100 (i : Nat) : clsN (i + 100) = clsN i := by unfold clsN; rw [Nat.add_mod_right]
def attN (i : Nat) : Str := attT.getD i "?"
theorem attT_len : attT.length = 77 := rfl
theorem attT_nd : attT.Nodup := by decide +kernel
theorem attN_inj {i j : Nat} (hi : i < 77) (hj : j < 77) (e : attN i = attN j) : i = j := by
  have h1 : i < attT.length := hi
  have h2 : j < attT.length := hj
  unfold attN at e
  unfold List.getD at e
  rw [List.getElem?_eq_getElem h1, List.getElem?_eq_getElem h2] at e
  have e : attT[i] = attT[j] := e
  have nd := List.pairwise_iff_getElem.mp attT_nd
  rcases Nat.lt_trichotomy i j with q | q | q
  · exact absurd e (nd i j h1 h2 q)
  · exact q
  · exact absurd e.symm (nd j i h2 h1 q)
def attB (i : Nat) : Bool := decide (i < 77)
theorem attN_ne {i j : Nat} (hi : attB i = true) (hj : attB j = true) (ne : i ≠ j) : attN i ≠ attN j := fun e => ne (attN_inj (of_decide_eq_true hi) (of_decide_eq_true hj) e)
abbrev c_Auction : Nat := 0
abbrev c_BadPlay : Nat := 1
abbrev c_Beat : Nat := 2
abbrev c_Cut : Nat := 3
abbrev c_Desk : Nat := 4
abbrev c_Even : Nat := 5
abbrev c_Flat : Nat := 6
abbrev c_Follow : Nat := 7
abbrev c_Free : Nat := 8
abbrev c_Game : Nat := 9
abbrev c_NoCall : Nat := 10
abbrev c_NoCard : Nat := 11
abbrev c_NoDeal : Nat := 12
abbrev c_NoHand : Nat := 13
abbrev c_NoPlay : Nat := 14
abbrev c_NoRecord : Nat := 15
abbrev c_NoRow : Nat := 16
abbrev c_NoShare : Nat := 17
abbrev c_NoSheet : Nat := 18
abbrev c_NoTable : Nat := 19
abbrev c_NoView : Nat := 20
abbrev c_NotNow : Nat := 21
abbrev c_NotYet : Nat := 22
abbrev c_Play : Nat := 23
abbrev c_Rule : Nat := 24
abbrev c_Steps : Nat := 25
abbrev c_Table : Nat := 26
abbrev c_TooMany : Nat := 27
abbrev c_TooMuch : Nat := 28
abbrev c_TrickError : Nat := 29
abbrev c_View : Nat := 30
abbrev a_init : Nat := 0
abbrev a_all_cards : Nat := 1
abbrev a_allowed : Nat := 2
abbrev a_append : Nat := 3
abbrev a_asked_of : Nat := 4
abbrev a_begins : Nat := 5
abbrev a_begun_by : Nat := 6
abbrev a_best : Nat := 7
abbrev a_bit_length : Nat := 8
abbrev a_board : Nat := 9
abbrev a_called : Nat := 10
abbrev a_calling : Nat := 11
abbrev a_calls : Nat := 12
abbrev a_clear : Nat := 13
abbrev a_contract : Nat := 14
abbrev a_count : Nat := 15
abbrev a_dealt : Nat := 16
abbrev a_dealt_out : Nat := 17
abbrev a_duty : Nat := 18
abbrev a_extend : Nat := 19
abbrev a_find : Nat := 20
abbrev a_fits : Nat := 21
abbrev a_fitting : Nat := 22
abbrev a_game : Nat := 23
abbrev a_get : Nat := 24
abbrev a_heights : Nat := 25
abbrev a_index : Nat := 26
abbrev a_insert : Nat := 27
abbrev a_is_done : Nat := 28
abbrev a_is_over : Nat := 29
abbrev a_is_sure : Nat := 30
abbrev a_join : Nat := 31
abbrev a_keys : Nat := 32
abbrev a_made : Nat := 33
abbrev a_many_seats : Nat := 34
abbrev a_may : Nat := 35
abbrev a_now : Nat := 36
abbrev a_order : Nat := 37
abbrev a_own_duty : Nat := 38
abbrev a_pack : Nat := 39
abbrev a_partition : Nat := 40
abbrev a_passes : Nat := 41
abbrev a_place : Nat := 42
abbrev a_plain_order : Nat := 43
abbrev a_played : Nat := 44
abbrev a_playing : Nat := 45
abbrev a_pointed : Nat := 46
abbrev a_points : Nat := 47
abbrev a_pop : Nat := 48
abbrev a_put : Nat := 49
abbrev a_remove : Nat := 50
abbrev a_replace : Nat := 51
abbrev a_reverse : Nat := 52
abbrev a_rjust : Nat := 53
abbrev a_row : Nat := 54
abbrev a_rule : Nat := 55
abbrev a_said : Nat := 56
abbrev a_say : Nat := 57
abbrev a_seat_of : Nat := 58
abbrev a_seats : Nat := 59
abbrev a_split : Nat := 60
abbrev a_standing : Nat := 61
abbrev a_start : Nat := 62
abbrev a_strength : Nat := 63
abbrev a_suits : Nat := 64
abbrev a_table : Nat := 65
abbrev a_taken : Nat := 66
abbrev a_text : Nat := 67
abbrev a_trick : Nat := 68
abbrev a_trump : Nat := 69
abbrev a_trump_order : Nat := 70
abbrev a_turn : Nat := 71
abbrev a_upper : Nat := 72
abbrev a_winner : Nat := 73
abbrev a_won : Nat := 74
abbrev a_word : Nat := 75
abbrev a_wrong : Nat := 76
/-- the class above each -/
def parT : List Nat := [0, 29, 24, 24, 4, 24, 24, 24, 24, 9, 29, 29, 29, 29, 29, 29, 29, 29, 29, 29, 29, 29, 29, 23, 24, 24, 26, 29, 29, 29, 30]
def subC (c c' : Nat) : Bool := c == c' || parT.getD c c == c'
def keyT : List Str := [("beat" : Str), ("call" : Str), ("cards" : Str), ("count" : Str), ("cut" : Str), ("duty" : Str), ("follow" : Str), ("free" : Str), ("heights" : Str), ("high" : Str), ("lead" : Str), ("may" : Str), ("plain" : Str), ("play" : Str), ("points" : Str), ("row" : Str), ("rules" : Str), ("seats" : Str), ("size" : Str), ("state" : Str), ("suits" : Str), ("text" : Str), ("trump" : Str), ("turn" : Str), ("unseen" : Str), ("won" : Str)]
def keyN (i : Nat) : Sum Int Str := .inr (keyT.getD i "?")
theorem keyT_nd : keyT.Nodup := by decide +kernel
theorem keyN_inj {i j : Nat} (hi : i < 26) (hj : j < 26) (e : keyN i = keyN j) : i = j := by
  have h1 : i < keyT.length := hi
  have h2 : j < keyT.length := hj
  have e : keyT.getD i "?" = keyT.getD j "?" := Sum.inr.inj e
  unfold List.getD at e
  rw [List.getElem?_eq_getElem h1, List.getElem?_eq_getElem h2] at e
  have e : keyT[i] = keyT[j] := e
  have nd := List.pairwise_iff_getElem.mp keyT_nd
  rcases Nat.lt_trichotomy i j with q | q | q
  · exact absurd e (nd i j h1 h2 q)
  · exact q
  · exact absurd e.symm (nd j i h2 h1 q)
def keyB (i : Nat) : Bool := decide (i < 26)
abbrev y_beat : Nat := 0
abbrev y_call : Nat := 1
abbrev y_cards : Nat := 2
abbrev y_count : Nat := 3
abbrev y_cut : Nat := 4
abbrev y_duty : Nat := 5
abbrev y_follow : Nat := 6
abbrev y_free : Nat := 7
abbrev y_heights : Nat := 8
abbrev y_high : Nat := 9
abbrev y_lead : Nat := 10
abbrev y_may : Nat := 11
abbrev y_plain : Nat := 12
abbrev y_play : Nat := 13
abbrev y_points : Nat := 14
abbrev y_row : Nat := 15
abbrev y_rules : Nat := 16
abbrev y_seats : Nat := 17
abbrev y_size : Nat := 18
abbrev y_state : Nat := 19
abbrev y_suits : Nat := 20
abbrev y_text : Nat := 21
abbrev y_trump : Nat := 22
abbrev y_turn : Nat := 23
abbrev y_unseen : Nat := 24
abbrev y_won : Nat := 25

/-! ## 1. data without a heap -/
inductive D where
  | non | bl (b : Bool) | int (i : Int) | str (s : Str) | tup (xs : List D) | lst (m : Nat) (xs : List D)
  | obj (C : Nat) (ns : List Nat) (ds : List D) | ty (n : String) | adr (a : Addr)
  | dct (m : Nat) (ks : List Nat) (ds : List D) | exc (c : Nat) (ns : List Nat) (ds : List D)
/-- a list that the program's own top holds -/
def KL (K : Frag) (a : Addr) (xs : List V) : Prop :=
  ∃ (o : Obj) (its : Array Value) (n : Nat), K.lookup a = some o ∧ o.cls = .type "list" ∧ o.dict = none ∧ o.data = .seq its n ∧ its.size ≤ sizeLine ∧ Vals xs its.toList
/-- the class with number x stands at C -/
def ClsAt (K : Frag) (x : Nat) (C : Addr) : Prop := PySem.W.nsIn K mainGlobals (clsN x) = some (some (.ref C))
theorem ClsAt.eq {K : Frag} {x : Nat} {C D : Addr} (h : ClsAt K x C) (g : ClsAt K x D) : C = D := by
  have := Eq.trans (Eq.symm h) g
  cases this; rfl
mutual
/-- v is the datum d at H: all lists in it stand still (m = 0 frozen, 1 lent, 2 of the top); G: the addresses that are lent -/
inductive DR (K : Frag) (G : Addr → Prop) (H : Hp) : V → D → Prop
  | non : DR K G H .non .non
  | bl (b : Bool) : DR K G H (.bl b) (.bl b)
  | int (i : Int) : DR K G H (.int i) (.int i)
  | str (s : Str) : DR K G H (.str s) (.str s)
  | ty (n : String) : DR K G H (.ty n) (.ty n)
  | adr (a : Addr) : DR K G H (.ref a) (.adr a)
  | tup {a : Addr} {xs : List V} {ds : List D} : SqT K H a xs → DRs K G H xs ds → DR K G H (.ref a) (.tup ds)
  | lst0 {a : Addr} {o : Obj} {xs : List V} {ds : List D} : H a = some (.frz o (.lst xs)) → ¬ G a → DRs K G H xs ds → DR K G H (.ref a) (.lst 0 ds)
  | lst1 {a : Addr} {o : Obj} {xs : List V} {ds : List D} : H a = some (.frz o (.lst xs)) → G a → DRs K G H xs ds → DR K G H (.ref a) (.lst 1 ds)
  | lst2 {a : Addr} {xs : List V} {ds : List D} : KL K a xs → DRs K G H xs ds → DR K G H (.ref a) (.lst 2 ds)
  | obj {a C dx : Addr} {x : Nat} {o : Obj} {fvs : List (Str × V)} {ns : List Nat} {ds : List D} : ClsAt K x C → H a = some (.frz o (.ins C dx fvs)) → (100 ≤ x ↔ G a) → fvs.map (·.1) = ns.map attN → DRs K G H (fvs.map (·.2)) ds → DR K G H (.ref a) (.obj x ns ds)
  | dct0 {a : Addr} {o : Obj} {kvs : List (Key × V)} {ks : List Nat} {ds : List D} : H a = some (.frz o (.dK kvs)) → ¬ G a → kvs.map (·.1) = ks.map keyN → DRs K G H (kvs.map (·.2)) ds → DR K G H (.ref a) (.dct 0 ks ds)
  | dct1 {a : Addr} {o : Obj} {kvs : List (Key × V)} {ks : List Nat} {ds : List D} : H a = some (.frz o (.dK kvs)) → G a → kvs.map (·.1) = ks.map keyN → DRs K G H (kvs.map (·.2)) ds → DR K G H (.ref a) (.dct 1 ks ds)
  | exc {a C : Addr} {oe : Obj} {φ : Heap → Prop} {x : Nat} {fvs : List (Str × V)} {ns : List Nat} {ds : List D} : ClsAt K x C → H a = some (.frz oe (.ext φ)) → oe.cls = .ref C → (∃ vs, oe.data = .fields vs) →
    (oe.dict = none ∧ fvs = [] ∨ ∃ p, oe.dict = some p ∧ H p = some (.xd fvs)) → fvs.map (·.1) = ns.map attN → DRs K G H (fvs.map (·.2)) ds → DR K G H (.ref a) (.exc x ns ds)
inductive DRs (K : Frag) (G : Addr → Prop) (H : Hp) : List V → List D → Prop
  | nil : DRs K G H [] []
  | cons {v : V} {d : D} {vs : List V} {ds : List D} : DR K G H v d → DRs K G H vs ds → DRs K G H (v :: vs) (d :: ds)
end
/-- what never changes is kept -/
structure Kp (H H' : Hp) : Prop where
  frz : ∀ a o u, H a = some (.frz o u) → H' a = some (.frz o u)
  tup : ∀ a xs, H a = some (.tup xs) → H' a = some (.tup xs)
  xd : ∀ a fs, H a = some (.xd fs) → H' a = some (.xd fs)
theorem Kp.refl (H : Hp) : Kp H H := ⟨fun _ _ _ h => h, fun _ _ h => h, fun _ _ h => h⟩
theorem Kp.trans {H H1 H2 : Hp} (a : Kp H H1) (b : Kp H1 H2) : Kp H H2 := ⟨fun x o u h => b.frz x o u (a.frz x o u h), fun x xs h => b.tup x xs (a.tup x xs h), fun x xs h => b.xd x xs (a.xd x xs h)⟩
theorem Kp.of {H H' : Hp} (s : Same H H') : Kp H H' := ⟨fun a _ _ h => s a _ h, fun a _ h => s a _ h, fun a _ h => s a _ h⟩
/-- an object that may be written is written -/
theorem Kp.upd {H : Hp} {a : Addr} {o u : HO} (h : H a = some o) (m : Mut (some o)) : Kp H (upd H a u) := by
  refine ⟨fun b w x e => ?_, fun b xs e => ?_, fun b xs e => ?_⟩ <;> (rw [upd_ne (fun q => by subst q; rw [h] at e; cases e; exact m)]; exact e)
section
variable {K : Frag} {G G' : Addr → Prop} {H H' : Hp}
theorem sqT_kp (k : Kp H H') {a : Addr} {xs : List V} (h : SqT K H a xs) : SqT K H' a xs := by
  rcases h with (h | ⟨o, h⟩) | h
  · exact .inl (.inl (k.tup _ _ h))
  · exact .inl (.inr ⟨o, k.frz _ _ _ h⟩)
  · exact .inr h
mutual
theorem DR.kp (k : Kp H H') : ∀ {d : D} {v : V}, DR K G H v d → DR K G H' v d
  | .non, _, h => by cases h; exact .non
  | .bl b, _, h => by cases h; exact .bl b
  | .int i, _, h => by cases h; exact .int i
  | .str s, _, h => by cases h; exact .str s
  | .ty n, _, h => by cases h; exact .ty n
  | .adr a, _, h => by cases h; exact .adr a
  | .tup ds, _, h => by cases h with | tup a b => exact .tup (sqT_kp k a) (DRs.kp k b)
  | .lst m ds, _, h => by
    cases h with
    | lst0 a g b => exact .lst0 (k.frz _ _ _ a) g (DRs.kp k b)
    | lst1 a g b => exact .lst1 (k.frz _ _ _ a) g (DRs.kp k b)
    | lst2 a b => exact .lst2 a (DRs.kp k b)
  | .obj C ns ds, _, h => by cases h with | obj c a g e b => exact .obj c (k.frz _ _ _ a) g e (DRs.kp k b)
  | .dct m ks ds, _, h => by
    cases h with
    | dct0 a g e b => exact .dct0 (k.frz _ _ _ a) g e (DRs.kp k b)
    | dct1 a g e b => exact .dct1 (k.frz _ _ _ a) g e (DRs.kp k b)
  | .exc C ns ds, _, h => by cases h with | exc c a e f x n b => exact .exc c (k.frz _ _ _ a) e f (x.imp (fun q => q) fun ⟨p, h1, h2⟩ => ⟨p, h1, k.xd _ _ h2⟩) n (DRs.kp k b)
theorem DRs.kp (k : Kp H H') : ∀ {ds : List D} {vs : List V}, DRs K G H vs ds → DRs K G H' vs ds
  | [], _, h => by cases h; exact .nil
  | d :: ds, _, h => by cases h with | cons a b => exact .cons (DR.kp k a) (DRs.kp k b)
end
theorem DRs.length : ∀ {ds : List D} {vs : List V}, DRs K G H vs ds → vs.length = ds.length
  | [], _, h => by cases h; rfl
  | d :: ds, _, h => by cases h with | cons a b => simp [DRs.length b]
theorem DRs.append : ∀ {ds es : List D} {vs ws : List V}, DRs K G H vs ds → DRs K G H ws es → DRs K G H (vs ++ ws) (ds ++ es)
  | [], _, _, _, h, g => by cases h; exact g
  | d :: ds, _, _, _, h, g => by cases h with | cons a b => exact .cons a (DRs.append b g)
theorem DRs.get : ∀ {ds : List D} {vs : List V} {i : Nat} {d : D}, DRs K G H vs ds → ds[i]? = some d → ∃ v, vs[i]? = some v ∧ DR K G H v d
  | [], _, _, _, h, e => by simp at e
  | d :: ds, _, 0, _, h, e => by cases h with | cons a b => simp at e; subst e; exact ⟨_, rfl, a⟩
  | d :: ds, _, i + 1, _, h, e => by
    cases h with | cons a b =>
    obtain ⟨v, h1, h2⟩ := DRs.get (i := i) b (by simpa using e)
    exact ⟨v, by simpa using h1, h2⟩
theorem DRs.get' : ∀ {ds : List D} {vs : List V} {i : Nat} {v : V}, DRs K G H vs ds → vs[i]? = some v → ∃ d, ds[i]? = some d ∧ DR K G H v d
  | [], _, _, _, h, e => by cases h; simp at e
  | d :: ds, _, 0, _, h, e => by cases h with | cons a b => simp at e; subst e; exact ⟨_, rfl, a⟩
  | d :: ds, _, i + 1, _, h, e => by
    cases h with | cons a b =>
    obtain ⟨v, h1, h2⟩ := DRs.get' (i := i) b (by simpa using e)
    exact ⟨v, by simpa using h1, h2⟩
theorem DRs.take : ∀ {ds : List D} {vs : List V} (n : Nat), DRs K G H vs ds → DRs K G H (vs.take n) (ds.take n)
  | _, _, 0, _ => by simpa using DRs.nil
  | [], _, n + 1, h => by cases h; simpa using DRs.nil
  | d :: ds, _, n + 1, h => by cases h with | cons a b => exact .cons a (DRs.take n b)
theorem DRs.drop : ∀ {ds : List D} {vs : List V} (n : Nat), DRs K G H vs ds → DRs K G H (vs.drop n) (ds.drop n)
  | _, _, 0, h => by simpa using h
  | [], _, n + 1, h => by cases h; simpa using DRs.nil
  | d :: ds, _, n + 1, h => by cases h with | cons a b => simpa using DRs.drop n b
theorem DRs.set {v : V} {d : D} (r : DR K G H v d) : ∀ {ds : List D} {vs : List V} (n : Nat), DRs K G H vs ds → DRs K G H (vs.set n v) (ds.set n d)
  | [], _, n, h => by cases h; simpa using DRs.nil
  | _ :: ds, _, 0, h => by cases h with | cons a b => exact .cons r b
  | _ :: ds, _, n + 1, h => by cases h with | cons a b => exact .cons a (DRs.set r n b)
theorem DRs.ints : ∀ {ns : List Int} {vs : List V}, DRs K G H vs (ns.map D.int) → vs = ns.map V.int
  | [], _, h => by cases h; rfl
  | n :: ns, _, h => by cases h with | cons a b => cases a; rw [DRs.ints b]; rfl
theorem DRs.of_ints : ∀ (ns : List Int), DRs K G H (ns.map V.int) (ns.map D.int)
  | [] => .nil
  | n :: ns => .cons (.int n) (DRs.of_ints ns)
theorem DRs.strs : ∀ {ns : List Str} {vs : List V}, DRs K G H vs (ns.map D.str) → vs = ns.map V.str
  | [], _, h => by cases h; rfl
  | n :: ns, _, h => by cases h with | cons a b => cases a; rw [DRs.strs b]; rfl
theorem DRs.of_strs : ∀ (ns : List Str), DRs K G H (ns.map V.str) (ns.map D.str)
  | [] => .nil
  | n :: ns => .cons (.str n) (DRs.of_strs ns)
/-! no lent list in it -/
mutual
def D.nb : D → Bool
  | .tup xs => D.nbs xs
  | .lst m xs => m != 1 && D.nbs xs
  | .dct m _ xs => m != 1 && D.nbs xs
  | .exc _ _ ds => D.nbs ds
  | .obj c _ ds => Nat.blt c 100 && D.nbs ds
  | _ => true
def D.nbs : List D → Bool
  | [] => true
  | d :: ds => d.nb && D.nbs ds
end
end
/-! ## 2. what a name owns -/
inductive O where
  | pure (d : D) | lst (xs : List D) | ins (a : Addr) (C : Nat) (ns : List Nat) (os : List O) | dct (ks : List Nat) (ds : List D)
mutual
/-- v is o; as: the addresses that are owned with it -/
inductive OR (K : Frag) (G : Addr → Prop) (H : Hp) : V → O → List Addr → Prop
  | pure {v : V} {d : D} : DR K G H v d → OR K G H v (.pure d) []
  | lst {a : Addr} {xs : List V} {ds : List D} : H a = some (.lst xs) → DRs K G H xs ds → OR K G H (.ref a) (.lst ds) [a]
  | dct {a : Addr} {kvs : List (Key × V)} {ks : List Nat} {ds : List D} : H a = some (.dK kvs) → kvs.map (·.1) = ks.map keyN → DRs K G H (kvs.map (·.2)) ds → OR K G H (.ref a) (.dct ks ds) [a]
  | ins {a C dx : Addr} {x : Nat} {fvs : List (Str × V)} {ns : List Nat} {os : List O} {as : List Addr} : ClsAt K x C → H a = some (.ins C dx fvs) → fvs.map (·.1) = ns.map attN → ORs K G H (fvs.map (·.2)) os as → OR K G H (.ref a) (.ins a x ns os) (a :: as)
inductive ORs (K : Frag) (G : Addr → Prop) (H : Hp) : List V → List O → List Addr → Prop
  | nil : ORs K G H [] [] []
  | cons {v : V} {o : O} {vs : List V} {os : List O} {as bs : List Addr} : OR K G H v o as → ORs K G H vs os bs → ORs K G H (v :: vs) (o :: os) (as ++ bs)
end
section
variable {K : Frag} {G G' : Addr → Prop} {H H' : Hp}
mutual
theorem OR.kp (k : Kp H H') : ∀ {o : O} {v : V} {as : List Addr}, OR K G H v o as → (∀ a ∈ as, H' a = H a) → OR K G H' v o as
  | .pure d, _, _, h, _ => by cases h with | pure a => exact .pure (a.kp k)
  | .lst ds, _, _, h, q => by cases h with | lst a b => exact .lst (by rw [q _ (by simp)]; exact a) (b.kp k)
  | .dct ks ds, _, _, h, q => by cases h with | dct a e b => exact .dct (by rw [q _ (by simp)]; exact a) e (b.kp k)
  | .ins a0 C ns os, _, _, h, q => by
    cases h with
    | ins c a e b => exact .ins c (by rw [q _ (by simp)]; exact a) e (ORs.kp k b fun x hx => q x (List.mem_cons_of_mem _ hx))
theorem ORs.kp (k : Kp H H') : ∀ {os : List O} {vs : List V} {as : List Addr}, ORs K G H vs os as → (∀ a ∈ as, H' a = H a) → ORs K G H' vs os as
  | [], _, _, h, _ => by cases h; exact .nil
  | o :: os, _, _, h, q => by
    cases h with
    | cons a b => exact .cons (OR.kp k a fun x hx => q x (List.mem_append_left _ hx)) (ORs.kp k b fun x hx => q x (List.mem_append_right _ hx))
end
mutual
/-- an owned address bears something that may be written -/
theorem OR.there : ∀ {o : O} {v : V} {as : List Addr}, OR K G H v o as → ∀ a ∈ as, Mut (H a) ∧ ∃ u, H a = some u
  | .pure d, _, _, h => by cases h; intro a ha; simp at ha
  | .lst ds, _, _, h => by
    cases h with
    | lst a b => intro x hx; simp at hx; subst hx; rw [a]; exact ⟨trivial, _, rfl⟩
  | .dct ks ds, _, _, h => by
    cases h with
    | dct a e b => intro x hx; simp at hx; subst hx; rw [a]; exact ⟨trivial, _, rfl⟩
  | .ins a0 C ns os, _, _, h => by
    cases h with
    | ins c a e b =>
      intro x hx
      rcases List.mem_cons.mp hx with rfl | hx
      · rw [a]; exact ⟨trivial, _, rfl⟩
      · exact ORs.there b x hx
theorem ORs.there : ∀ {os : List O} {vs : List V} {as : List Addr}, ORs K G H vs os as → ∀ a ∈ as, Mut (H a) ∧ ∃ u, H a = some u
  | [], _, _, h => by cases h; intro a ha; simp at ha
  | o :: os, _, _, h => by
    cases h with
    | cons a b =>
      intro x hx
      rcases List.mem_append.mp hx with hx | hx
      · exact OR.there a x hx
      · exact ORs.there b x hx
end
mutual
def O.nb : O → Bool
  | .pure d => d.nb
  | .lst ds => D.nbs ds
  | .dct _ ds => D.nbs ds
  | .ins _ _ _ os => O.nbs os
def O.nbs : List O → Bool
  | [] => true
  | o :: os => o.nb && O.nbs os
end
end

abbrev SS := List (Option O)
inductive RV where
  | d (x : D) | loc (i : Nat) | new (o : O)
structure Own (K : Frag) (G : Addr → Prop) (B : Hp) (N : List Addr) (A : Nat → List Addr) (σ : St) (H : Hp) (ss : SS) : Prop where
  at_ : ∀ (i : Nat) (o : O), ss[i]? = some (some o) → ∃ v, σ[i]? = some (some v) ∧ OR K G H v o (A i)
  nd : ∀ i, (A i).Nodup
  ap : ∀ i j a, a ∈ A i → a ∈ A j → i = j
  fr : ∀ i a, a ∈ A i → B a = none ∧ a ∉ N
  off : ∀ (i : Nat), (∀ o, ss[i]? ≠ some (some o)) → A i = []
/-- the state by slots: B is kept, N is held back (made, in nobody's hands yet) -/
structure Sm (K : Frag) (G : Addr → Prop) (B : Hp) (N : List Addr) (σ : St) (H : Hp) (ss : SS) : Prop where
  keep : Same B H
  own : ∃ A, Own K G B N A σ H ss
  nn : ∀ a ∈ N, B a = none
  gb : ∀ a, G a → ∃ o, B a = some o
  len : ss.length = σ.length
section
variable {K : Frag} {G : Addr → Prop} {B : Hp} {N : List Addr} {σ : St} {H H' : Hp} {ss : SS}
theorem Own.there {A : Nat → List Addr} (W : Own K G B N A σ H ss) {i : Nat} {a : Addr} (h : a ∈ A i) : Mut (H a) ∧ ∃ u, H a = some u := by
  by_cases q : ∃ o, ss[i]? = some (some o)
  · obtain ⟨o, e⟩ := q
    obtain ⟨v, _, r⟩ := W.at_ i o e
    exact r.there a h
  · rw [W.off i fun o e => q ⟨o, e⟩] at h
    simp at h
theorem Sm.same (S : Sm K G B N σ H ss) (k : Same H H') : Sm K G B N σ H' ss := by
  obtain ⟨A, W⟩ := S.own
  refine ⟨S.keep.trans k, ⟨A, fun i o e => ?_, W.nd, W.ap, W.fr, W.off⟩, S.nn, S.gb, S.len⟩
  obtain ⟨v, e1, r⟩ := W.at_ i o e
  refine ⟨v, e1, r.kp (Kp.of k) fun a ha => ?_⟩
  obtain ⟨_, u, hu⟩ := r.there a ha
  rw [hu, k _ _ hu]
theorem Sm.weak (S : Sm K G B N σ H ss) : Sm K G B [] σ H ss := by
  obtain ⟨A, W⟩ := S.own
  exact ⟨S.keep, ⟨A, W.at_, W.nd, W.ap, fun i a h => ⟨(W.fr i a h).1, by simp⟩, W.off⟩, fun a h => by simp at h, S.gb, S.len⟩
/-- new objects at N -/
theorem Sm.alloc (S : Sm K G B [] σ H ss) (k : Same H H') (n : ∀ a ∈ N, H a = none) : Sm K G B N σ H' ss := by
  have S' := S.same k
  obtain ⟨A, W⟩ := S.own
  obtain ⟨A', W'⟩ := S'.own
  refine ⟨S'.keep, ⟨A, fun i o e => ?_, W.nd, W.ap, fun i a h => ⟨(W.fr i a h).1, fun q => ?_⟩, W.off⟩, fun a h => ?_, S.gb, S.len⟩
  · obtain ⟨v, e1, r⟩ := W.at_ i o e
    refine ⟨v, e1, r.kp (Kp.of k) fun a ha => ?_⟩
    obtain ⟨_, u, hu⟩ := r.there a ha
    rw [hu, k _ _ hu]
  · obtain ⟨_, u, hu⟩ := W.there h
    rw [n a q] at hu; cases hu
  · cases e : B a with
    | none => rfl
    | some o => have := S.keep a o e; rw [n a h] at this; cases this
theorem Sm.fresh (S : Sm K G B N σ H ss) {a : Addr} (h : H a = none) : B a = none := by
  cases e : B a with
  | none => rfl
  | some o => have := S.keep a o e; rw [h] at this; cases this
theorem Sm.get (S : Sm K G B N σ H ss) {i : Nat} {o : O} (h : ss[i]? = some (some o)) : ∃ v as, σ[i]? = some (some v) ∧ OR K G H v o as := by
  obtain ⟨A, W⟩ := S.own
  obtain ⟨v, e, r⟩ := W.at_ i o h
  exact ⟨v, _, e, r⟩
theorem Sm.pure (S : Sm K G B N σ H ss) {i : Nat} {d : D} (h : ss[i]? = some (some (.pure d))) : ∃ v, σ[i]? = some (some v) ∧ DR K G H v d := by
  obtain ⟨v, as, e, r⟩ := S.get h
  cases r with | pure r => exact ⟨v, e, r⟩
theorem Sm.list (S : Sm K G B N σ H ss) {i : Nat} {ds : List D} (h : ss[i]? = some (some (.lst ds))) : ∃ a xs, σ[i]? = some (some (.ref a)) ∧ H a = some (.lst xs) ∧ DRs K G H xs ds := by
  obtain ⟨v, as, e, r⟩ := S.get h
  cases r with | lst h1 h2 => exact ⟨_, _, e, h1, h2⟩
theorem get_set {α : Type} {l : List α} {i j : Nat} {x y : α} (h : (l.set i x)[j]? = some y) : (j = i ∧ y = x) ∨ (j ≠ i ∧ l[j]? = some y) := by
  by_cases e : i = j
  · subst e
    by_cases hl : i < l.length
    · rw [List.getElem?_set_self hl] at h; cases h; exact .inl ⟨rfl, rfl⟩
    · rw [List.getElem?_eq_none (by simpa using hl)] at h; cases h
  · rw [List.getElem?_set_ne e] at h
    exact .inr ⟨fun q => e q.symm, h⟩
/-- what is held back goes to a slot -/
theorem Sm.set {i : Nat} {v : V} {o : O} {as : List Addr} (S : Sm K G B as σ H ss) (r : OR K G H v o as) (nd : as.Nodup) (hi : i < ss.length) : Sm K G B [] (σ.set i (some v)) H (ss.set i (some o)) := by
  obtain ⟨A, W⟩ := S.own
  have hi2 : i < σ.length := by rw [← S.len]; exact hi
  refine ⟨S.keep, ⟨fun j => if j = i then as else A j, fun j u e => ?_, fun j => ?_, fun j k a h1 h2 => ?_, fun j a h => ?_, fun j q => ?_⟩, fun a h => by simp at h, S.gb, by simp [S.len]⟩
  · rcases get_set e with ⟨rfl, q⟩ | ⟨ne, q⟩
    · injection q with q; subst q
      refine ⟨v, by rw [List.getElem?_set_self hi2], ?_⟩
      rw [if_pos rfl]; exact r
    · obtain ⟨w, e1, r1⟩ := W.at_ j u q
      refine ⟨w, by rw [List.getElem?_set_ne (Ne.symm ne)]; exact e1, ?_⟩
      rw [if_neg ne]; exact r1
  · by_cases e : j = i
    · simp only [if_pos e]; exact nd
    · simp only [if_neg e]; exact W.nd j
  · by_cases e : j = i
    · by_cases e2 : k = i
      · rw [e, e2]
      · simp only [if_pos e, if_neg e2] at h1 h2
        exact absurd h1 (W.fr k a h2).2
    · by_cases e2 : k = i
      · simp only [if_neg e, if_pos e2] at h1 h2
        exact absurd h2 (W.fr j a h1).2
      · simp only [if_neg e, if_neg e2] at h1 h2
        exact W.ap j k a h1 h2
  · by_cases e : j = i
    · simp only [if_pos e] at h; exact ⟨S.nn a h, by simp⟩
    · simp only [if_neg e] at h; exact ⟨(W.fr j a h).1, by simp⟩
  · by_cases e : j = i
    · exact absurd (by rw [e, List.getElem?_set_self hi]) (q o)
    · simp only [if_neg e]
      exact W.off j fun u h => q u (by rw [List.getElem?_set_ne (Ne.symm e)]; exact h)
theorem Sm.setD {i : Nat} {v : V} {d : D} (S : Sm K G B [] σ H ss) (r : DR K G H v d) (hi : i < ss.length) : Sm K G B [] (σ.set i (some v)) H (ss.set i (some (.pure d))) :=
  S.set (.pure r) List.nodup_nil hi
/-- what is held back is frozen -/
theorem Sm.frz {a : Addr} {u : HO} {od : Obj} (S : Sm K G B [a] σ H ss) (h : H a = some u) (mu : Mut (some u)) : Sm K G B [] σ (upd H a (.frz od u)) ss ∧ Kp H (upd H a (.frz od u)) := by
  obtain ⟨A, W⟩ := S.own
  have kp : Kp H (upd H a (.frz od u)) := Kp.upd h mu
  refine ⟨⟨fun b o e => ?_, ⟨A, fun i o e => ?_, W.nd, W.ap, fun i b hb => ⟨(W.fr i b hb).1, by simp⟩, W.off⟩, fun b hb => by simp at hb, S.gb, S.len⟩, kp⟩
  · rw [upd_ne (fun q => by subst q; rw [S.nn b (by simp)] at e; cases e)]
    exact S.keep b o e
  · obtain ⟨v, e1, r⟩ := W.at_ i o e
    exact ⟨v, e1, r.kp kp fun b hb => upd_ne fun q => (W.fr i b hb).2 (by simp [q])⟩
/-- a slot is forgotten -/
theorem Sm.drop (S : Sm K G B [] σ H ss) (i : Nat) : Sm K G B [] σ H (ss.set i none) := by
  obtain ⟨A, W⟩ := S.own
  refine ⟨S.keep, ⟨fun j => if j = i then [] else A j, fun j u e => ?_, fun j => ?_, fun j k a h1 h2 => ?_, fun j a h => ?_, fun j q => ?_⟩, fun a h => by simp at h, S.gb, by simp [S.len]⟩
  · rcases get_set e with ⟨rfl, q⟩ | ⟨ne, q⟩
    · cases q
    · obtain ⟨w, e1, r1⟩ := W.at_ j u q
      exact ⟨w, e1, by rw [if_neg ne]; exact r1⟩
  · by_cases e : j = i
    · simp only [if_pos e]; exact List.nodup_nil
    · simp only [if_neg e]; exact W.nd j
  · by_cases e : j = i
    · simp only [if_pos e] at h1; simp at h1
    · by_cases e2 : k = i
      · simp only [if_pos e2] at h2; simp at h2
      · simp only [if_neg e, if_neg e2] at h1 h2
        exact W.ap j k a h1 h2
  · by_cases e : j = i
    · simp only [if_pos e] at h; simp at h
    · simp only [if_neg e] at h; exact W.fr j a h
  · by_cases e : j = i
    · simp only [if_pos e]
    · simp only [if_neg e]
      exact W.off j fun u h => q u (by rw [List.getElem?_set_ne (Ne.symm e)]; exact h)
/-- a slot gives away what it owns: held back now -/
theorem Sm.take (S : Sm K G B [] σ H ss) {i : Nat} {o : O} (h : ss[i]? = some (some o)) : ∃ v as, σ[i]? = some (some v) ∧ OR K G H v o as ∧ as.Nodup ∧ Sm K G B as σ H (ss.set i none) := by
  obtain ⟨A, W⟩ := S.own
  obtain ⟨v, e, r⟩ := W.at_ i o h
  refine ⟨v, A i, e, r, W.nd i, S.keep, ⟨fun j => if j = i then [] else A j, fun j u e => ?_, fun j => ?_, fun j k a h1 h2 => ?_, fun j a h => ?_, fun j q => ?_⟩, fun a h => (W.fr i a h).1, S.gb, by simp [S.len]⟩
  · rcases get_set e with ⟨rfl, q⟩ | ⟨ne, q⟩
    · cases q
    · obtain ⟨w, e1, r1⟩ := W.at_ j u q
      exact ⟨w, e1, by rw [if_neg ne]; exact r1⟩
  · by_cases e : j = i
    · simp only [if_pos e]; exact List.nodup_nil
    · simp only [if_neg e]; exact W.nd j
  · by_cases e : j = i
    · simp only [if_pos e] at h1; simp at h1
    · by_cases e2 : k = i
      · simp only [if_pos e2] at h2; simp at h2
      · simp only [if_neg e, if_neg e2] at h1 h2
        exact W.ap j k a h1 h2
  · by_cases e : j = i
    · simp only [if_pos e] at h; simp at h
    · simp only [if_neg e] at h; exact ⟨(W.fr j a h).1, fun q => e (W.ap j i a h q)⟩
  · by_cases e : j = i
    · simp only [if_pos e]
    · simp only [if_neg e]
      exact W.off j fun u h => q u (by rw [List.getElem?_set_ne (Ne.symm e)]; exact h)
/-- a slot gets back what was taken, changed perhaps: σ as it is -/
theorem Sm.put {i : Nat} {v : V} {o : O} {as : List Addr} (S : Sm K G B as σ H ss) (hv : σ[i]? = some (some v)) (r : OR K G H v o as) (nd : as.Nodup) : Sm K G B [] σ H (ss.set i (some o)) := by
  obtain ⟨hi, e⟩ := List.getElem?_eq_some_iff.mp hv
  have q := S.set (i := i) (v := v) r nd (by rw [S.len]; exact hi)
  have e2 : σ.set i (some v) = σ := by rw [← e]; exact List.set_getElem_self hi
  rw [e2] at q
  exact q
/-- the list of a slot is written -/
theorem Sm.wr (S : Sm K G B [] σ H ss) {i : Nat} {ds : List D} (h : ss[i]? = some (some (.lst ds))) : ∃ a xs, σ[i]? = some (some (.ref a)) ∧ H a = some (.lst xs) ∧ DRs K G H xs ds ∧
    ∀ xs' ds', DRs K G H xs' ds' → Sm K G B [] σ (upd H a (.lst xs')) (ss.set i (some (.lst ds'))) := by
  obtain ⟨v, as, e, r, nd, S1⟩ := S.take h
  cases r with
  | @lst a xs _ h1 h2 =>
    refine ⟨a, xs, e, h1, h2, fun xs' ds' r' => ?_⟩
    have kp : Kp H (upd H a (.lst xs')) := Kp.upd h1 trivial
    have S2 : Sm K G B [a] σ (upd H a (.lst xs')) (ss.set i none) := by
      obtain ⟨A, W⟩ := S1.own
      refine ⟨fun b o eb => ?_, ⟨A, fun j o eb => ?_, W.nd, W.ap, W.fr, W.off⟩, S1.nn, S1.gb, S1.len⟩
      · rw [upd_ne (ne_of_none eb (S1.nn a (by simp)))]
        exact S1.keep b o eb
      · obtain ⟨w, e1, r1⟩ := W.at_ j o eb
        exact ⟨w, e1, r1.kp kp fun b hb => upd_ne fun q => (W.fr j b hb).2 (by simp [q])⟩
    have S3 := S2.put (o := .lst ds') e (.lst upd_same (r'.kp kp)) (by simp)
    rw [List.set_set] at S3
    exact S3
end
/-! ## what an expression gives -/
/-- what is made by a step from H to H' -/
def RS (K : Frag) (G : Addr → Prop) (H H' : Hp) (v : V) : RV → Prop
  | .d x => Same H H' ∧ DR K G H' v x
  | .new o => ∃ as, Same H H' ∧ OR K G H' v o as ∧ as.Nodup ∧ ∀ a ∈ as, H a = none
  | .loc _ => False
def RR (K : Frag) (G : Addr → Prop) (B : Hp) (σ : St) (H : Hp) (ss : SS) (v : V) : RV → Prop
  | .d x => Sm K G B [] σ H ss ∧ DR K G H v x
  | .loc i => Sm K G B [] σ H ss ∧ σ[i]? = some (some v)
  | .new o => ∃ as, Sm K G B as σ H ss ∧ OR K G H v o as ∧ as.Nodup
section
variable {K : Frag} {G : Addr → Prop} {B : Hp} {N : List Addr} {σ : St} {H H' : Hp} {ss : SS} {v : V} {r : RV}
theorem RR.sem (h : RR K G B σ H ss v r) : Sm K G B [] σ H ss := by
  cases r with
  | d x => exact h.1
  | loc i => exact h.1
  | new o => obtain ⟨as, S, _⟩ := h; exact S.weak
theorem RS.same (h : RS K G H H' v r) : Same H H' := by
  cases r with
  | d x => exact h.1
  | loc i => exact h.elim
  | new o => obtain ⟨as, S, _⟩ := h; exact S
theorem RS.rr (S : Sm K G B [] σ H ss) (h : RS K G H H' v r) : RR K G B σ H' ss v r := by
  cases r with
  | d x => exact ⟨S.same h.1, h.2⟩
  | loc i => exact h.elim
  | new o => obtain ⟨as, k, ro, nd, n⟩ := h; exact ⟨as, S.alloc k n, ro, nd⟩
end
abbrev ZT := SS → (RV → SS → Prop) → Prop
abbrev ZTD := SS → (D → SS → Prop) → Prop
abbrev ZTB := SS → (Bool → SS → Prop) → Prop
abbrev ZTA := SS → (List RV → SS → Prop) → Prop
/-- te does what t says -/
def Zr (K : Frag) (G : Addr → Prop) (B : Hp) (te : TE) (t : ZT) : Prop := ∀ (σ : St) (H : Hp) (ss : SS) (Q : RV → SS → Prop) (R : VK), Sm K G B [] σ H ss → t ss Q →
  (∀ v H' r ss', Kp H H' → RR K G B σ H' ss' v r → Q r ss' → R v H') → te σ H R
def ZE (X : Cx) (G : Addr → Prop) (B : Hp) (e : Expr) (t : ZT) : Prop := ∃ te, PE X e te ∧ Zr X.K G B te t
/-- a value that may go into other things: a datum -/
def ZrD (K : Frag) (G : Addr → Prop) (B : Hp) (te : TE) (t : ZTD) : Prop := ∀ (σ : St) (H : Hp) (ss : SS) (Q : D → SS → Prop) (R : VK), Sm K G B [] σ H ss → t ss Q →
  (∀ v H' d ss', Kp H H' → Sm K G B [] σ H' ss' → DR K G H' v d → Q d ss' → R v H') → te σ H R
def ZD (X : Cx) (G : Addr → Prop) (B : Hp) (e : Expr) (t : ZTD) : Prop := ∃ te, PE X e te ∧ ZrD X.K G B te t
/-- a test -/
def ZrB (K : Frag) (G : Addr → Prop) (B : Hp) (te : TT) (t : ZTB) : Prop := ∀ (σ : St) (H : Hp) (ss : SS) (Q : Bool → SS → Prop) (R : Bool → Hp → Prop), Sm K G B [] σ H ss → t ss Q →
  (∀ b H' ss', Kp H H' → Sm K G B [] σ H' ss' → Q b ss' → R b H') → te σ H R
def ZB (X : Cx) (G : Addr → Prop) (B : Hp) (e : Expr) (t : ZTB) : Prop := ∃ te, PT X e te ∧ ZrB X.K G B te t
def ZW (X : Cx) (G : Addr → Prop) (B : Hp) (e : Expr) (t : ZTB) : Prop := ∃ te, PW X e te ∧ ZrB X.K G B te t
/-- arguments -/
def AR (K : Frag) (G : Addr → Prop) (σ : St) (H : Hp) : List V → List RV → Prop
  | [], [] => True
  | v :: vs, .d x :: rs => DR K G H v x ∧ AR K G σ H vs rs
  | v :: vs, .loc i :: rs => σ[i]? = some (some v) ∧ AR K G σ H vs rs
  | _, _ => False
def ZrA (K : Frag) (G : Addr → Prop) (B : Hp) (te : TA) (t : ZTA) : Prop := ∀ (σ : St) (H : Hp) (ss : SS) (Q : List RV → SS → Prop) (R : List V → Hp → Prop), Sm K G B [] σ H ss → t ss Q →
  (∀ vs H' rs ss', Kp H H' → Sm K G B [] σ H' ss' → AR K G σ H' vs rs → Q rs ss' → R vs H') → te σ H R
def ZA (X : Cx) (G : Addr → Prop) (B : Hp) (es : List Expr) (t : ZTA) : Prop := ∃ te, PA X es te ∧ ZrA X.K G B te t
/-! marks of the readings: a side condition, a branching -/
structure Sd (p : Prop) : Prop where
  h : p
structure Br (b : Bool) (A C : Prop) : Prop where
  t : b = true → A
  f : b = false → C
theorem Br.T {A C : Prop} (h : A) : Br true A C := ⟨fun _ => h, fun e => Bool.noConfusion e⟩
theorem Br.F {A C : Prop} (h : C) : Br false A C := ⟨fun e => Bool.noConfusion e, fun _ => h⟩
/-! ## freezing -/
/-- an owned thing as a datum, its lists frozen -/
def O.fz : O → Option D
  | .pure d => some d
  | .lst ds => some (.lst 0 ds)
  | .dct ks ds => some (.dct 0 ks ds)
  | .ins _ C ns os => match Nat.blt C 100 with
    | true => (pures os).map fun ds => .obj C ns ds
    | false => none
where pures : List O → Option (List D)
  | [] => some []
  | .pure d :: os => (pures os).map (d :: ·)
  | _ => none
def zF (t : ZT) : ZTD := fun ss Q => t ss fun r s => match r with
  | .d x => Q x s
  | .new o => match o.fz with
    | some d => Q d s
    | none => False
  | .loc i => match s[i]? with
    | some (some o) => match o.fz with
      | some d => Q d (s.set i (some (.pure d)))
      | none => False
    | _ => False
/-- frozen, if it is to be -/
def tFz (te : TE) : TE := fun σ H Q => te σ H fun v H1 => Q v H1 ∨ ∃ a u, v = .ref a ∧ H1 a = some u ∧ Mut (some u) ∧ ∀ od, Q v (upd H1 a (.frz od u))
theorem pe_fz {X : Cx} {e : Expr} {te : TE} (h : PE X e te) : PE X e (tFz te) := by
  refine ⟨fun pins s σ H Q I hw => ?_⟩
  refine thn (h.run pins s σ H _ I hw) fun u s1 ⟨v, H1, I1, r, q⟩ => ?_
  rcases q with q | ⟨a, w, ev, ha, mu, q⟩
  · exact ⟨v, H1, I1, r, q⟩
  · obtain ⟨od, I2⟩ := I1.lock ha mu
    exact ⟨v, _, I2, r, q od⟩
section
variable {K : Frag} {G : Addr → Prop} {B : Hp} {σ : St} {H H' : Hp} {ss : SS} {v : V}
theorem pures_or : ∀ {os : List O} {vs : List V} {as : List Addr} {ds : List D}, ORs K G H vs os as → O.fz.pures os = some ds → as = [] ∧ DRs K G H vs ds
  | [], _, _, _, h, e => by cases h; simp [O.fz.pures] at e; subst e; exact ⟨rfl, .nil⟩
  | .pure d :: os, _, _, _, h, e => by
    cases h with
    | cons a b =>
      cases a with
      | pure r =>
        simp only [O.fz.pures, Option.map_eq_some_iff] at e
        obtain ⟨ds, e1, rfl⟩ := e
        obtain ⟨e2, r2⟩ := pures_or b e1
        exact ⟨by simp [e2], .cons r r2⟩
  | .lst _ :: os, _, _, _, h, e => by simp [O.fz.pures] at e
  | .dct _ _ :: os, _, _, _, h, e => by simp [O.fz.pures] at e
  | .ins _ _ _ _ :: os, _, _, _, h, e => by simp [O.fz.pures] at e
/-- what is held back becomes a datum: as it stands, or by freezing its address -/
theorem fz_or {o : O} {as : List Addr} {d : D} (S : Sm K G B as σ H ss) (r : OR K G H v o as) (e : o.fz = some d) :
    (Sm K G B [] σ H ss ∧ DR K G H v d ∧ Kp H H) ∨ ∃ a u, v = .ref a ∧ as = [a] ∧ H a = some u ∧ Mut (some u) ∧ ∀ od, Sm K G B [] σ (upd H a (.frz od u)) ss ∧ DR K G (upd H a (.frz od u)) v d ∧ Kp H (upd H a (.frz od u)) := by
  cases o with
  | pure x =>
    cases r with
    | pure r => simp [O.fz] at e; subst e; exact .inl ⟨S.weak, r, Kp.refl _⟩
  | lst ds =>
    cases r with
    | @lst a xs _ h1 h2 =>
      simp [O.fz] at e; subst e
      refine .inr ⟨a, _, rfl, rfl, h1, trivial, fun od => ?_⟩
      obtain ⟨S', k⟩ := S.frz (od := od) h1 trivial
      refine ⟨S', .lst0 upd_same (fun g => ?_) (h2.kp k), k⟩
      obtain ⟨o, q⟩ := S.gb a g
      rw [S.nn a (by simp)] at q; cases q
  | dct ks ds =>
    cases r with
    | @dct a kvs _ _ h1 h3 h2 =>
      simp [O.fz] at e; subst e
      refine .inr ⟨a, _, rfl, rfl, h1, trivial, fun od => ?_⟩
      obtain ⟨S', k⟩ := S.frz (od := od) h1 trivial
      refine ⟨S', .dct0 upd_same (fun g => ?_) h3 (h2.kp k), k⟩
      obtain ⟨o, q⟩ := S.gb a g
      rw [S.nn a (by simp)] at q; cases q
  | ins a0 C ns os =>
    cases r with
    | @ins _ _ dx _ fvs _ _ as hc h1 h2 h3 =>
      cases hb : Nat.blt C 100 with
      | false => simp [O.fz, hb] at e
      | true =>
      simp only [O.fz, hb, Option.map_eq_some_iff] at e
      have lt : C < 100 := by simpa using hb
      obtain ⟨ds, e1, rfl⟩ := e
      obtain ⟨e2, r2⟩ := pures_or h3 e1
      subst e2
      refine .inr ⟨a0, _, rfl, rfl, h1, trivial, fun od => ?_⟩
      obtain ⟨S', k⟩ := S.frz (od := od) h1 trivial
      refine ⟨S', .obj hc upd_same ⟨fun h => absurd h (by omega), fun g => ?_⟩ h2 (r2.kp k), k⟩
      obtain ⟨o, q⟩ := S.gb a0 g
      rw [S.nn a0 (by simp)] at q; cases q
theorem z_fz {X : Cx} {e : Expr} {t : ZT} (h : ZE X G B e t) : ZD X G B e (zF t) := by
  obtain ⟨te, hp, hz⟩ := h
  refine ⟨_, pe_fz hp, fun σ H ss Q R S hw fin => ?_⟩
  refine hz σ H ss _ _ S hw fun v H' r ss' k rr q => ?_
  cases r with
  | d x => exact .inl (fin v H' x ss' k rr.1 rr.2 q)
  | new o =>
    obtain ⟨as, S', ro, nd⟩ := rr
    cases ef : o.fz with
    | none => simp only [ef] at q
    | some d =>
      simp only [ef] at q
      rcases fz_or S' ro ef with ⟨S2, r2, _⟩ | ⟨a, u, e1, _, e2, mu, q2⟩
      · exact .inl (fin v H' d ss' k S2 r2 q)
      · refine .inr ⟨a, u, e1, e2, mu, fun od => ?_⟩
        obtain ⟨S2, r2, k2⟩ := q2 od
        exact fin v _ d ss' (k.trans k2) S2 r2 q
  | loc i =>
    obtain ⟨S', ev⟩ := rr
    cases es : ss'[i]? with
    | none => simp only [es] at q
    | some oo =>
      cases oo with
      | none => simp only [es] at q
      | some o =>
        cases ef : o.fz with
        | none => simp only [es, ef] at q
        | some d =>
          simp only [es, ef] at q
          obtain ⟨v', as, ev', ro, nd, S2⟩ := S'.take es
          rw [ev] at ev'
          cases ev'
          rcases fz_or S2 ro ef with ⟨S3, r3, _⟩ | ⟨a, u, e1, _, e2, mu, q2⟩
          · refine .inl (fin v H' d _ k ?_ r3 q)
            have := S3.put ev (.pure r3) List.nodup_nil
            rw [List.set_set] at this; exact this
          · refine .inr ⟨a, u, e1, e2, mu, fun od => ?_⟩
            obtain ⟨S3, r3, k2⟩ := q2 od
            have S4 := S3.put ev (.pure r3) List.nodup_nil
            rw [List.set_set] at S4
            exact fin v _ d _ (k.trans k2) S4 r3 q
end

abbrev WZ := Nat → List Nat → List D → SS → Prop
abbrev EZ := Nat → List Nat → List D → Prop
/-- an exception of the class with number c, its attributes -/
def XR (K : Frag) (G : Addr → Prop) (H : Hp) (cls : Value) (d : Option Addr) (c : Nat) (ns : List Nat) (ds : List D) : Prop :=
  (∃ C, ClsAt K c C ∧ cls = .ref C) ∧ ∃ fvs : List (Str × V), (d = none ∧ fvs = [] ∨ ∃ p, d = some p ∧ H p = some (.xd fvs)) ∧ fvs.map (·.1) = ns.map attN ∧ DRs K G H (fvs.map (·.2)) ds
/-- where one stands: k calls fit in, no name twice, what an exception meets -/
structure Ctx (X : Cx) (G : Addr → Prop) (B : Hp) (Wz : WZ) (k : Nat) : Prop where
  room : Room k X.A
  nd : X.N.Nodup
  calm : X.calm = true
  pass : PassesOwn (model X.prog X.w) X.A X.env X.xe
  wish : ∃ W : WX, Takes X W ∧ ∀ σ H ss cls d c ns ds, Sm X.K G B [] σ H ss → XR X.K G H cls d c ns ds → Wz c ns ds ss → W cls d σ H
/-! ## a datum that is looked at: it may be owned -/
inductive VR (K : Frag) (G : Addr → Prop) (H : Hp) : V → D → Prop
  | d {v : V} {x : D} : DR K G H v x → VR K G H v x
  | l {a : Addr} {xs : List V} {ds : List D} : H a = some (.lst xs) → DRs K G H xs ds → VR K G H (.ref a) (.lst 1 ds)
  | k {a : Addr} {kvs : List (Key × V)} {ks : List Nat} {ds : List D} : H a = some (.dK kvs) → kvs.map (·.1) = ks.map keyN → DRs K G H (kvs.map (·.2)) ds → VR K G H (.ref a) (.dct 1 ks ds)
def cv (ss : SS) : RV → Option D
  | .d x => some x
  | .loc i => match ss[i]? with
    | some (some (.lst ds)) => some (.lst 1 ds)
    | some (some (.dct ks ds)) => some (.dct 1 ks ds)
    | some (some (.pure d)) => some d
    | _ => none
  | .new _ => none
section
variable {K : Frag} {G : Addr → Prop} {B : Hp} {σ : St} {H H' : Hp} {ss : SS} {v : V} {m : Nat} {ds : List D}
theorem VR.sq (h : VR K G H v (.lst m ds)) : ∃ a xs, v = .ref a ∧ SqL K H a xs ∧ DRs K G H xs ds := by
  cases h with
  | d h =>
    cases h with
    | lst0 a g b => exact ⟨_, _, rfl, .inl (.inr ⟨_, a⟩), b⟩
    | lst1 a g b => exact ⟨_, _, rfl, .inl (.inr ⟨_, a⟩), b⟩
    | lst2 a b => exact ⟨_, _, rfl, .inr a, b⟩
  | l a b => exact ⟨_, _, rfl, SqL.of a, b⟩
/-- a list that is no part of the top -/
theorem VR.rd (h : VR K G H v (.lst m ds)) (hm : m ≠ 2) : ∃ a xs, v = .ref a ∧ Rd H a (.lst xs) ∧ DRs K G H xs ds := by
  cases h with
  | d h =>
    cases h with
    | lst0 a g b => exact ⟨_, _, rfl, .inr ⟨_, a⟩, b⟩
    | lst1 a g b => exact ⟨_, _, rfl, .inr ⟨_, a⟩, b⟩
    | lst2 a b => exact absurd rfl hm
  | l a b => exact ⟨_, _, rfl, .inl a, b⟩
theorem VR.tq (h : VR K G H v (.tup ds)) : ∃ a xs, v = .ref a ∧ SqT K H a xs ∧ DRs K G H xs ds := by
  cases h with
  | d h => cases h with | tup a b => exact ⟨_, _, rfl, a, b⟩
theorem VR.i {i : Int} (h : VR K G H v (.int i)) : v = .int i := by cases h with | d h => cases h; rfl
theorem VR.b {b : Bool} (h : VR K G H v (.bl b)) : v = .bl b := by cases h with | d h => cases h; rfl
theorem VR.s {s : Str} (h : VR K G H v (.str s)) : v = .str s := by cases h with | d h => cases h; rfl
theorem VR.n (h : VR K G H v .non) : v = .non := by cases h with | d h => cases h; rfl
theorem VR.y {n : String} (h : VR K G H v (.ty n)) : v = .ty n := by cases h with | d h => cases h; rfl
theorem VR.a {a : Addr} (h : VR K G H v (.adr a)) : v = .ref a := by cases h with | d h => cases h; rfl
/-- what an operand is at the end: r was found at (σ, H), the state is now (ss', H') -/
theorem cv_vr {r : RV} {x : D} {ss' : SS} (S : Sm K G B [] σ H' ss') (k : Kp H H') (rr : RR K G B σ H ss v r) (e : cv ss' r = some x) : VR K G H' v x := by
  cases r with
  | d y => cases e; exact .d (rr.2.kp k)
  | new o => cases e
  | loc i =>
    obtain ⟨_, hv⟩ := rr
    unfold cv at e
    cases h : ss'[i]? with
    | none => simp only [h] at e; cases e
    | some oo =>
      cases oo with
      | none => simp only [h] at e; cases e
      | some o =>
        cases o with
        | pure d =>
          simp only [h] at e; cases e
          obtain ⟨w, hw, r⟩ := S.pure h
          rw [hv] at hw; cases hw
          exact .d r
        | lst ds =>
          simp only [h] at e; cases e
          obtain ⟨a, xs, hw, ha, r⟩ := S.list h
          rw [hv] at hw; cases hw
          exact .l ha r
        | dct ks ds =>
          simp only [h] at e; cases e
          obtain ⟨w, as, hw, r⟩ := S.get h
          rw [hv] at hw; cases hw
          cases r with | dct ha hk r => exact .k ha hk r
        | ins a0 C ns os => simp only [h] at e; cases e
end
/-- only what is new is frozen -/
def zN (t : ZT) : ZT := fun ss Q => t ss fun r s => match r with
  | .new o => match o.fz with
    | some d => Q (.d d) s
    | none => False
  | .d x => Q (.d x) s
  | .loc i => Q (.loc i) s
section
variable {X : Cx} {G : Addr → Prop} {B : Hp} {Wz : WZ} {k : Nat} {e a b c : Expr} {t ta tb tc : ZT} {pos : Pos}
theorem z_n (h : ZE X G B e t) : ZE X G B e (zN t) := by
  obtain ⟨te, hp, hz⟩ := h
  refine ⟨_, pe_fz hp, fun σ H ss Q R S hw fin => ?_⟩
  refine hz σ H ss _ _ S hw fun v H' r ss' k rr q => ?_
  cases r with
  | d x => exact .inl (fin v H' _ ss' k rr q)
  | loc i => exact .inl (fin v H' _ ss' k rr q)
  | new o =>
    obtain ⟨as, S', ro, nd⟩ := rr
    cases ef : o.fz with
    | none => simp only [ef] at q
    | some d =>
      simp only [ef] at q
      rcases fz_or S' ro ef with ⟨S2, r2, _⟩ | ⟨a, u, e1, _, e2, mu, q2⟩
      · exact .inl (fin v H' (.d d) ss' k ⟨S2, r2⟩ q)
      · refine .inr ⟨a, u, e1, e2, mu, fun od => ?_⟩
        obtain ⟨S2, r2, k2⟩ := q2 od
        exact fin v _ (.d d) ss' (k.trans k2) ⟨S2, r2⟩ q
theorem RR.d' {K : Frag} {σ : St} {H : Hp} {ss : SS} {v : V} {x : D} (S : Sm K G B [] σ H ss) (r : DR K G H v x) : RR K G B σ H ss v (.d x) := ⟨S, r⟩
theorem RR.l' {K : Frag} {σ : St} {H : Hp} {ss : SS} {v : V} {i : Nat} (S : Sm K G B [] σ H ss) (r : σ[i]? = some (some v)) : RR K G B σ H ss v (.loc i) := ⟨S, r⟩
/-! ## names, constants -/
def zVar (i : Nat) : ZT := fun ss Q => match ss[i]? with
  | some (some (.pure d)) => Q (.d d) ss
  | some (some _) => Q (.loc i) ss
  | _ => False
theorem z_var (i : Nat) {x : Str} {pos : Pos} (hN : X.N[i]? = some x := by rfl) (hv : Vis X.env.scope x := by first | exact Or.inl rfl | exact Or.inr (Or.inl rfl) | exact Or.inr (Or.inr rfl)) (hd : (x == ("__debug__" : Str)) = false := by decide)
    (hcd : (x == ("__classdict__" : Str)) = false := by decide) : ZE X G B (.Name x pos) (zVar i) := by
  refine ⟨_, pe_var hN hv hd hcd, fun σ H ss Q R S hw fin => ?_⟩
  unfold zVar at hw
  cases h : ss[i]? with
  | none => simp only [h] at hw
  | some oo =>
    cases oo with
    | none => simp only [h] at hw
    | some o =>
      cases o with
      | pure d =>
        simp only [h] at hw
        obtain ⟨v, hv, r⟩ := S.pure h
        exact ⟨v, hv, fin v H _ ss (Kp.refl H) (.d' S r) hw⟩
      | lst ds =>
        simp only [h] at hw
        obtain ⟨v, as, hv, r⟩ := S.get h
        exact ⟨v, hv, fin v H _ ss (Kp.refl H) (.l' S hv) hw⟩
      | ins a0 C ns os =>
        simp only [h] at hw
        obtain ⟨v, as, hv, r⟩ := S.get h
        exact ⟨v, hv, fin v H _ ss (Kp.refl H) (.l' S hv) hw⟩
      | dct ks ds =>
        simp only [h] at hw
        obtain ⟨v, as, hv, r⟩ := S.get h
        exact ⟨v, hv, fin v H _ ss (Kp.refl H) (.l' S hv) hw⟩
def zC (d : D) : ZT := fun ss Q => Q (.d d) ss
theorem z_int {i j pos} : ZE X G B (.Constant (.int i) j pos) (zC (.int i)) := ⟨_, pe_int, fun _ H ss _ _ S hw fin => fin _ H _ ss (Kp.refl H) (.d' S (.int i)) hw⟩
theorem z_bl {i j pos} : ZE X G B (.Constant (.bool i) j pos) (zC (.bl i)) := ⟨_, pe_bl, fun _ H ss _ _ S hw fin => fin _ H _ ss (Kp.refl H) (.d' S (.bl i)) hw⟩
theorem z_non {j pos} : ZE X G B (.Constant .none j pos) (zC .non) := ⟨_, pe_non, fun _ H ss _ _ S hw fin => fin _ H _ ss (Kp.refl H) (.d' S .non) hw⟩
theorem z_str {i j pos} : ZE X G B (.Constant (.str i) j pos) (zC (.str i)) := ⟨_, pe_str, fun _ H ss _ _ S hw fin => fin _ H _ ss (Kp.refl H) (.d' S (.str i)) hw⟩
/-- a name of the top -/
theorem z_glob {x : Str} {v : V} {u : Value} {d : D} {pos : Pos} (hg : Gl X x) (hm : X.mg x = some u) (r : RelV v u) (hd : ∀ G H, DR X.K G H v d) (hdb : (x == ("__debug__" : Str)) = false := by decide) : ZE X G B (.Name x pos) (zC d) :=
  ⟨_, pe_glob hg hm r hdb, fun _ H ss _ _ S hw fin => fin _ H _ ss (Kp.refl H) (.d' S (hd _ _)) hw⟩
theorem z_bltn {x : Str} {n : String} {pos : Pos} (hg : Gl X x) (hm : X.mg x = none) (hv : bootBuiltins x = some (.type n)) (hn : x ≠ "__name__" := by decide) (hd : (x == ("__debug__" : Str)) = false := by decide) : ZE X G B (.Name x pos) (zC (.ty n)) :=
  ⟨_, pe_bltn (v := .ty n) hg hm hv rfl hn hd, fun _ H ss _ _ S hw fin => fin _ H _ ss (Kp.refl H) (.d' S (.ty n)) hw⟩
/-! ## operations on two values -/
abbrev Z2 := D → D → (RV → Prop) → Prop
/-- the rule of an operation -/
def OpZ (X : Cx) (f : Value → Value → PySem.Sem Value) (z : Z2) : Prop := ∃ r : R2, OpR X f r ∧ ∀ (G : Addr → Prop) (H : Hp) (x y : V) (dx dy : D) (Q : RV → Prop) (R : VK), VR X.K G H x dx → VR X.K G H y dy → z dx dy Q →
  (∀ v H' rv, RS X.K G H H' v rv → Q rv → R v H') → r x y H R
def zBin (z : Z2) (ta tb : ZT) : ZT := fun ss Q => zN ta ss fun ra s1 => zN tb s1 fun rb s2 => match cv s2 ra, cv s2 rb with
  | some x, some y => z x y fun r => Q r s2
  | _, _ => False
theorem bin_zr {K : Frag} {tea teb : TE} {r : R2} {z : Z2} (ha : Zr K G B tea (zN ta)) (hb : Zr K G B teb (zN tb))
    (hr : ∀ (G : Addr → Prop) (H : Hp) (x y : V) (dx dy : D) (Q : RV → Prop) (R : VK), VR K G H x dx → VR K G H y dy → z dx dy Q → (∀ v H' rv, RS K G H H' v rv → Q rv → R v H') → r x y H R) : Zr K G B (tOp r tea teb) (zBin z ta tb) := by
  intro σ H ss Q R S hw fin
  refine ha σ H ss _ _ S hw fun v H1 ra s1 k1 rr1 q1 => ?_
  refine hb σ H1 s1 _ _ rr1.sem q1 fun w H2 rb s2 k2 rr2 q2 => ?_
  cases ea : cv s2 ra with
  | none => simp only [ea] at q2
  | some x =>
    cases eb : cv s2 rb with
    | none => simp only [ea, eb] at q2
    | some y =>
      simp only [ea, eb] at q2
      refine hr G H2 v w x y _ _ (cv_vr rr2.sem k2 rr1 ea) (cv_vr rr2.sem (Kp.refl _) rr2 eb) q2 fun u H3 rv rs q3 => ?_
      exact fin u H3 rv s2 ((k1.trans k2).trans (Kp.of rs.same)) (rs.rr rr2.sem) q3
theorem z_bin {op : Operator} {z : Z2} (ho : OpZ X (binaryOp op) z) (ha : ZE X G B a ta) (hb : ZE X G B b tb) : ZE X G B (.BinOp a op b pos) (zBin z ta tb) := by
  obtain ⟨r, h1, h2⟩ := ho
  obtain ⟨tea, pa, za⟩ := z_n ha
  obtain ⟨teb, pb, zb⟩ := z_n hb
  exact ⟨_, pe_op h1 pa pb, bin_zr za zb h2⟩
theorem z_cmp {op : CmpOp} {z : Z2} (ho : OpZ X (compareOp op) z) (hm : behindInMarks op b = false) (ha : ZE X G B a ta) (hb : ZE X G B b tb) : ZE X G B (.Compare a [op] [b] pos) (zBin z ta tb) := by
  obtain ⟨r, h1, h2⟩ := ho
  obtain ⟨tea, pa, za⟩ := z_n ha
  obtain ⟨teb, pb, zb⟩ := z_n hb
  exact ⟨_, pe_cmpR h1 pa pb hm, bin_zr za zb h2⟩
/-- a value as a test -/
def zT (t : ZT) : ZTB := fun ss Q => t ss fun r s => match r with
  | .d (.bl b) => Q b s
  | _ => False
theorem zt_of {K : Frag} {te : TE} (h : Zr K G B te t) : ZrB K G B (tTest te) (zT t) := by
  intro σ H ss Q R S hw fin
  refine h σ H ss _ _ S hw fun v H' r ss' k rr q => ?_
  cases r with
  | d x =>
    cases x with
    | bl b =>
      obtain ⟨S', r⟩ := rr
      cases r
      exact ⟨b, rfl, fin b H' ss' k S' q⟩
    | _ => exact q.elim
  | _ => exact q.elim
theorem t_cmp {op : CmpOp} {z : Z2} (ho : OpZ X (compareOp op) z) (hm : behindInMarks op b = false) (ha : ZE X G B a ta) (hb : ZE X G B b tb) : ZB X G B (.Compare a [op] [b] pos) (zT (zBin z ta tb)) := by
  obtain ⟨r, h1, h2⟩ := ho
  obtain ⟨tea, pa, za⟩ := z_n ha
  obtain ⟨teb, pb, zb⟩ := z_n hb
  exact ⟨_, pt_cmpR h1 pa pb hm, zt_of (bin_zr za zb h2)⟩
/-- any other expression that gives a bool (a name, a call, a subscript ..) -/
theorem t_val (h : ZE X G B e t) (he : ∀ whole, isTrue e X.env whole = (do let v ← whole; standAt e.pos; holding [v] (truthy v)) := by intro _; rfl) : ZB X G B e (zT t) := by
  obtain ⟨te, p, z⟩ := h
  exact ⟨_, pt_val p he, zt_of z⟩
def zNot (t : ZTB) : ZTB := fun ss Q => t ss fun b s => Q (!b) s
theorem t_not {t : ZTB} (h : ZB X G B a t) : ZB X G B (.UnaryOp .Not a pos) (zNot t) := by
  obtain ⟨te, p, z⟩ := h
  exact ⟨_, pt_not p, fun σ H ss Q R S hw fin => z σ H ss _ _ S hw fun b H' ss' k S' q => fin _ H' ss' k S' q⟩
def zAnd (t u : ZTB) : ZTB := fun ss Q => t ss fun b s => Br b (u s Q) (Q false s)
def zOr (t u : ZTB) : ZTB := fun ss Q => t ss fun b s => Br b (Q true s) (u s Q)
variable {rest : List Expr} {u v : ZTB}
theorem w_and1 (h : ZB X G B a u) : ZW X G B (.BoolOp .And [a] pos) u := by obtain ⟨te, p, z⟩ := h; exact ⟨_, pw_and1 p, z⟩
theorem w_or1 (h : ZB X G B a u) : ZW X G B (.BoolOp .Or [a] pos) u := by obtain ⟨te, p, z⟩ := h; exact ⟨_, pw_or1 p, z⟩
theorem w_and (h : ZB X G B a u) (h2 : ZW X G B (.BoolOp .And (b :: rest) pos) v) : ZW X G B (.BoolOp .And (a :: b :: rest) pos) (zAnd u v) := by
  obtain ⟨te, p, z⟩ := h
  obtain ⟨te2, p2, z2⟩ := h2
  refine ⟨_, pw_and p p2, fun σ H ss Q R S hw fin => z σ H ss _ _ S hw fun b H' ss' k S' q => ?_⟩
  cases b with
  | true => rw [if_pos rfl]; exact z2 σ H' ss' _ _ S' (q.t rfl) fun b2 H2 s2 k2 S2 q2 => fin b2 H2 s2 (k.trans k2) S2 q2
  | false => rw [if_neg Bool.false_ne_true]; exact fin false H' ss' k S' (q.f rfl)
theorem w_or (h : ZB X G B a u) (h2 : ZW X G B (.BoolOp .Or (b :: rest) pos) v) : ZW X G B (.BoolOp .Or (a :: b :: rest) pos) (zOr u v) := by
  obtain ⟨te, p, z⟩ := h
  obtain ⟨te2, p2, z2⟩ := h2
  refine ⟨_, pw_or p p2, fun σ H ss Q R S hw fin => z σ H ss _ _ S hw fun b H' ss' k S' q => ?_⟩
  cases b with
  | true => rw [if_pos rfl]; exact fin true H' ss' k S' (q.t rfl)
  | false => rw [if_neg Bool.false_ne_true]; exact z2 σ H' ss' _ _ S' (q.f rfl) fun b2 H2 s2 k2 S2 q2 => fin b2 H2 s2 (k.trans k2) S2 q2
theorem t_w (h : ZW X G B e u) : ZB X G B e u := by obtain ⟨te, p, z⟩ := h; exact ⟨_, p.pt, z⟩
/-! and, or, not as values: of bools -/
def zAndV (ta tb : ZT) : ZT := fun ss Q => ta ss fun r s => match r with
  | .d (.bl b) => Br b (tb s Q) (Q (.d (.bl false)) s)
  | _ => False
def zOrV (ta tb : ZT) : ZT := fun ss Q => ta ss fun r s => match r with
  | .d (.bl b) => Br b (Q (.d (.bl true)) s) (tb s Q)
  | _ => False
def zNotV (ta : ZT) : ZT := fun ss Q => ta ss fun r s => match r with
  | .d (.bl b) => Q (.d (.bl (!b))) s
  | _ => False
theorem z_one {op} (h : ZE X G B a t) : ZE X G B (.BoolOp op [a] pos) t := by obtain ⟨te, p, z⟩ := h; exact ⟨_, pe_one p, z⟩
theorem z_and (h : ZE X G B a ta) (h2 : ZE X G B (.BoolOp .And (b :: rest) pos) tb) : ZE X G B (.BoolOp .And (a :: b :: rest) pos) (zAndV ta tb) := by
  obtain ⟨te, p, z⟩ := h
  obtain ⟨te2, p2, z2⟩ := h2
  refine ⟨_, pe_and p p2, fun σ H ss Q R S hw fin => z σ H ss _ _ S hw fun w H' r ss' k rr q => ?_⟩
  cases r with
  | d x =>
    cases x with
    | bl b =>
      obtain ⟨S', r⟩ := rr
      cases r
      refine ⟨b, rfl, ?_⟩
      cases b with
      | true => rw [if_pos rfl]; exact z2 σ H' ss' _ _ S' (q.t rfl) fun b2 H2 r2 s2 k2 S2 q2 => fin b2 H2 r2 s2 (k.trans k2) S2 q2
      | false => rw [if_neg Bool.false_ne_true]; exact fin _ H' _ ss' k (.d' S' (.bl false)) (q.f rfl)
    | _ => exact q.elim
  | _ => exact q.elim
theorem z_or (h : ZE X G B a ta) (h2 : ZE X G B (.BoolOp .Or (b :: rest) pos) tb) : ZE X G B (.BoolOp .Or (a :: b :: rest) pos) (zOrV ta tb) := by
  obtain ⟨te, p, z⟩ := h
  obtain ⟨te2, p2, z2⟩ := h2
  refine ⟨_, pe_or p p2, fun σ H ss Q R S hw fin => z σ H ss _ _ S hw fun w H' r ss' k rr q => ?_⟩
  cases r with
  | d x =>
    cases x with
    | bl b =>
      obtain ⟨S', r⟩ := rr
      cases r
      refine ⟨b, rfl, ?_⟩
      cases b with
      | true => rw [if_pos rfl]; exact fin _ H' _ ss' k (.d' S' (.bl true)) (q.t rfl)
      | false => rw [if_neg Bool.false_ne_true]; exact z2 σ H' ss' _ _ S' (q.f rfl) fun b2 H2 r2 s2 k2 S2 q2 => fin b2 H2 r2 s2 (k.trans k2) S2 q2
    | _ => exact q.elim
  | _ => exact q.elim
theorem z_not (h : ZE X G B a ta) : ZE X G B (.UnaryOp .Not a pos) (zNotV ta) := by
  obtain ⟨te, p, z⟩ := h
  refine ⟨_, pe_not p, fun σ H ss Q R S hw fin => z σ H ss _ _ S hw fun w H' r ss' k rr q => ?_⟩
  cases r with
  | d x =>
    cases x with
    | bl b =>
      obtain ⟨S', r⟩ := rr
      cases r
      exact ⟨b, rfl, fin _ H' _ ss' k (.d' S' (.bl _)) q⟩
    | _ => exact q.elim
  | _ => exact q.elim
def zIf (t : ZTB) (ta tb : ZT) : ZT := fun ss Q => t ss fun b s => Br b (ta s Q) (tb s Q)
theorem z_ifx (h : ZB X G B c u) (ha : ZE X G B a ta) (hb : ZE X G B b tb) : ZE X G B (.IfExp c a b pos) (zIf u ta tb) := by
  obtain ⟨te, p, z⟩ := h
  obtain ⟨te2, p2, z2⟩ := ha
  obtain ⟨te3, p3, z3⟩ := hb
  refine ⟨_, pe_ifExp p p2 p3, fun σ H ss Q R S hw fin => z σ H ss _ _ S hw fun b H' ss' k S' q => ?_⟩
  cases b with
  | true => rw [if_pos rfl]; exact z2 σ H' ss' _ _ S' (q.t rfl) fun b2 H2 r2 s2 k2 S2 q2 => fin b2 H2 r2 s2 (k.trans k2) S2 q2
  | false => rw [if_neg Bool.false_ne_true]; exact z3 σ H' ss' _ _ S' (q.f rfl) fun b2 H2 r2 s2 k2 S2 q2 => fin b2 H2 r2 s2 (k.trans k2) S2 q2
end

/-! ## == of data -/
mutual
def D.eq : D → D → Bool
  | .non, .non => true
  | .bl a, .bl b => a == b
  | .bl a, .int j => (if a then 1 else 0) == j
  | .int i, .bl b => i == (if b then 1 else 0)
  | .int i, .int j => decide (i = j)
  | .str a, .str b => decide (a = b)
  | .tup a, .tup b => D.eqs a b
  | .lst _ a, .lst _ b => D.eqs a b
  | _, _ => false
def D.eqs : List D → List D → Bool
  | [], [] => true
  | a :: as, b :: bs => D.eq a b && D.eqs as bs
  | _, _ => false
end
mutual
/-- plain data, at most n deep -/
def D.pl : Nat → D → Bool
  | _, .non => true
  | _, .bl _ => true
  | _, .int _ => true
  | _, .str s => s.cps.all (· < 0x110000)
  | n + 1, .tup ds => D.pls n ds
  | n + 1, .lst _ ds => D.pls n ds
  | _, _ => false
def D.pls : Nat → List D → Bool
  | _, [] => true
  | n, d :: ds => D.pl n d && D.pls n ds
end
mutual
def D.toP : D → PyData
  | .non => .none
  | .bl b => .bool b
  | .int i => .int i
  | .str s => .str s
  | .tup ds => .tuple (D.toPs ds)
  | .lst _ ds => .list (D.toPs ds)
  | _ => .none
def D.toPs : List D → List PyData
  | [] => []
  | d :: ds => d.toP :: D.toPs ds
end
section
variable {K : Frag} {G : Addr → Prop} {H : Hp}
mutual
theorem DR.dp : ∀ {n : Nat} {d : D} {v : V}, DR K G H v d → d.pl n = true → Dp K H v d.toP
  | _, .non, _, h, _ => by cases h; exact .non
  | _, .bl b, _, h, _ => by cases h; exact .bl b
  | _, .int i, _, h, _ => by cases h; exact .int i
  | _, .str s, _, h, _ => by cases h; exact .str s
  | 0, .tup ds, _, _, p => by simp [D.pl] at p
  | n + 1, .tup ds, _, h, p => by cases h with | tup a b => exact .tup a (DRs.dp b (by simpa [D.pl] using p))
  | 0, .lst m ds, _, _, p => by simp [D.pl] at p
  | n + 1, .lst m ds, _, h, p => by
    have p2 : D.pls n ds = true := by simpa [D.pl] using p
    cases h with
    | lst0 a g b => exact .lst (.inl (.inr ⟨_, a⟩)) (DRs.dp b p2)
    | lst1 a g b => exact .lst (.inl (.inr ⟨_, a⟩)) (DRs.dp b p2)
    | lst2 a b => exact .lst (.inr a) (DRs.dp b p2)
  | _, .obj _ _ _, _, _, p => by simp [D.pl] at p
  | _, .ty _, _, _, p => by simp [D.pl] at p
  | _, .adr _, _, _, p => by simp [D.pl] at p
  | _, .dct _ _ _, _, _, p => by simp [D.pl] at p
  | _, .exc _ _ _, _, _, p => by simp [D.pl] at p
theorem DRs.dp : ∀ {n : Nat} {ds : List D} {vs : List V}, DRs K G H vs ds → D.pls n ds = true → DpAll K H vs (D.toPs ds)
  | _, [], _, h, _ => by cases h; exact .nil
  | n, d :: ds, _, h, p => by
    simp [D.pls] at p
    cases h with | cons a b => exact .cons (DR.dp a p.1) (DRs.dp b p.2)
end
theorem VR.dp {n : Nat} {d : D} {v : V} (h : VR K G H v d) (p : d.pl n = true) : Dp K H v d.toP := by
  cases h with
  | d h => exact h.dp p
  | l a b =>
    cases n with
    | zero => simp [D.pl] at p
    | succ n => exact .lst (SqL.of a) (b.dp (by simpa [D.pl] using p))
  | k a e b => cases n <;> simp [D.pl] at p
end
mutual
theorem pl_shape : ∀ {n : Nat} {d : D}, d.pl n = true → d.toP.canLay0 = true ∧ d.toP.depth ≤ n
  | _, .non, _ => by simp [D.toP, PyData.canLay0, PyData.depth]
  | _, .bl b, _ => by simp [D.toP, PyData.canLay0, PyData.depth]
  | _, .int i, _ => by simp [D.toP, PyData.canLay0, PyData.depth]
  | _, .str s, p => by simp [D.toP, PyData.canLay0, PyData.depth]; simpa [D.pl, PyData.strOk] using p
  | 0, .tup ds, p => by simp [D.pl] at p
  | n + 1, .tup ds, p => by
    obtain ⟨h1, h2⟩ := pls_shape (n := n) (ds := ds) (by simpa [D.pl] using p)
    simp only [D.toP, PyData.canLay0, PyData.depth]
    exact ⟨h1, by omega⟩
  | 0, .lst m ds, p => by simp [D.pl] at p
  | n + 1, .lst m ds, p => by
    obtain ⟨h1, h2⟩ := pls_shape (n := n) (ds := ds) (by simpa [D.pl] using p)
    simp only [D.toP, PyData.canLay0, PyData.depth]
    exact ⟨h1, by omega⟩
  | _, .obj _ _ _, p => by simp [D.pl] at p
  | _, .ty _, p => by simp [D.pl] at p
  | _, .adr _, p => by simp [D.pl] at p
theorem pls_shape : ∀ {n : Nat} {ds : List D}, D.pls n ds = true → PyData.canLayAll0 (D.toPs ds) = true ∧ PyData.depthAll (D.toPs ds) ≤ n
  | _, [], _ => by simp [D.toPs, PyData.canLayAll0, PyData.depthAll]
  | n, d :: ds, p => by
    simp [D.pls] at p
    obtain ⟨h1, h2⟩ := pl_shape p.1
    obtain ⟨h3, h4⟩ := pls_shape p.2
    simp only [D.toPs, PyData.canLayAll0, PyData.depthAll, h1, h3, Bool.and_self]
    exact ⟨trivial, by omega⟩
end
theorem pl_shaped {d : D} (p : d.pl 60 = true) : SeqAt.shaped d.toP = true := by
  obtain ⟨h1, h2⟩ := pl_shape p
  unfold SeqAt.shaped
  rw [h1, Bool.true_and]
  exact decide_eq_true (by omega)
mutual
theorem eq_eqv : ∀ {n m : Nat} {x y : D}, x.pl n = true → y.pl m = true → PyData.eqv x.toP y.toP = D.eq x y
  | n, m, x, y, p, q => by
    cases x with
    | tup xs =>
      cases n with
      | zero => simp [D.pl] at p
      | succ n =>
        cases y with
        | tup ys =>
          cases m with
          | zero => simp [D.pl] at q
          | succ m =>
            simp only [D.toP, PyData.eqv, D.eq]
            exact eqs_eqv (n := n) (m := m) (by simpa [D.pl] using p) (by simpa [D.pl] using q)
        | obj _ _ _ => simp [D.pl] at q
        | ty _ => simp [D.pl] at q
        | adr _ => simp [D.pl] at q
        | dct _ _ _ => simp [D.pl] at q
        | exc _ _ _ => simp [D.pl] at q
        | _ => simp [D.toP, PyData.eqv, D.eq]
    | lst _ xs =>
      cases n with
      | zero => simp [D.pl] at p
      | succ n =>
        cases y with
        | lst _ ys =>
          cases m with
          | zero => simp [D.pl] at q
          | succ m =>
            simp only [D.toP, PyData.eqv, D.eq]
            exact eqs_eqv (n := n) (m := m) (by simpa [D.pl] using p) (by simpa [D.pl] using q)
        | obj _ _ _ => simp [D.pl] at q
        | ty _ => simp [D.pl] at q
        | adr _ => simp [D.pl] at q
        | dct _ _ _ => simp [D.pl] at q
        | exc _ _ _ => simp [D.pl] at q
        | _ => simp [D.toP, PyData.eqv, D.eq]
    | obj _ _ _ => simp [D.pl] at p
    | ty _ => simp [D.pl] at p
    | adr _ => simp [D.pl] at p
    | dct _ _ _ => simp [D.pl] at p
    | exc _ _ _ => simp [D.pl] at p
    | int i =>
      cases y with
      | int j => simp only [D.toP, PyData.eqv, D.eq]; exact Bool.beq_eq_decide_eq i j
      | obj _ _ _ => simp [D.pl] at q
      | ty _ => simp [D.pl] at q
      | adr _ => simp [D.pl] at q
      | dct _ _ _ => simp [D.pl] at q
      | exc _ _ _ => simp [D.pl] at q
      | _ => simp [D.toP, PyData.eqv, D.eq]
    | str i =>
      cases y with
      | str j => simp only [D.toP, PyData.eqv, D.eq]; exact Bool.beq_eq_decide_eq i j
      | obj _ _ _ => simp [D.pl] at q
      | ty _ => simp [D.pl] at q
      | adr _ => simp [D.pl] at q
      | dct _ _ _ => simp [D.pl] at q
      | exc _ _ _ => simp [D.pl] at q
      | _ => simp [D.toP, PyData.eqv, D.eq]
    | _ =>
      cases y with
      | obj _ _ _ => simp [D.pl] at q
      | ty _ => simp [D.pl] at q
      | adr _ => simp [D.pl] at q
      | dct _ _ _ => simp [D.pl] at q
      | exc _ _ _ => simp [D.pl] at q
      | _ => simp [D.toP, PyData.eqv, D.eq]
theorem eqs_eqv : ∀ {n m : Nat} {xs ys : List D}, D.pls n xs = true → D.pls m ys = true → PyData.eqvAll (D.toPs xs) (D.toPs ys) = D.eqs xs ys
  | _, _, [], [], _, _ => by simp [D.toPs, PyData.eqvAll, D.eqs]
  | _, _, [], _ :: _, _, _ => by simp [D.toPs, PyData.eqvAll, D.eqs]
  | _, _, _ :: _, [], _, _ => by simp [D.toPs, PyData.eqvAll, D.eqs]
  | n, m, x :: xs, y :: ys, p, q => by
    simp [D.pls] at p q
    simp only [D.toPs, PyData.eqvAll, D.eqs]
    rw [eq_eqv p.1 q.1, eqs_eqv p.2 q.2]
end
/-! ## the operations -/
section
variable {X : Cx}
/-- an operation on ints alone -/
def zI (C : Int → Int → Prop) (g : Int → Int → Int) : Z2 := fun x y Q => match x, y with
  | .int i, .int j => Sd (C i j) ∧ Q (.d (.int (g i j)))
  | _, _ => False
def zI0 (g : Int → Int → Int) : Z2 := fun x y Q => match x, y with
  | .int i, .int j => Q (.d (.int (g i j)))
  | _, _ => False
def zB0 (g : Int → Int → Bool) : Z2 := fun x y Q => match x, y with
  | .int i, .int j => Q (.d (.bl (g i j)))
  | _, _ => False
theorem rs_d {G : Addr → Prop} {H : Hp} {v : V} {d : D} (r : DR X.K G H v d) : RS X.K G H H v (.d d) := ⟨Same.refl H, r⟩
theorem opz_i {f : Value → Value → PySem.Sem Value} {C : Int → Int → Prop} {g : Int → Int → Int} (h : OpR X f (rI C fun i j => .int (g i j))) : OpZ X f (zI C g) := by
  refine ⟨_, h, fun G H x y dx dy Q R hx hy q fin => ?_⟩
  unfold zI at q
  cases dx with
  | int i =>
    cases dy with
    | int j =>
      obtain rfl := hx.i
      obtain rfl := hy.i
      exact ⟨i, j, rfl, rfl, q.1.h, fin _ H _ (rs_d (.int _)) q.2⟩
    | _ => exact q.elim
  | _ => exact q.elim
theorem opz_i0 {f : Value → Value → PySem.Sem Value} {g : Int → Int → Int} (h : OpR X f (rI0 fun i j => .int (g i j))) : OpZ X f (zI0 g) := by
  refine ⟨_, h, fun G H x y dx dy Q R hx hy q fin => ?_⟩
  unfold zI0 at q
  cases dx with
  | int i =>
    cases dy with
    | int j =>
      obtain rfl := hx.i
      obtain rfl := hy.i
      exact ⟨i, j, rfl, rfl, fin _ H _ (rs_d (.int _)) q⟩
    | _ => exact q.elim
  | _ => exact q.elim
theorem opz_b0 {f : Value → Value → PySem.Sem Value} {g : Int → Int → Bool} (h : OpR X f (rI0 fun i j => .bl (g i j))) : OpZ X f (zB0 g) := by
  refine ⟨_, h, fun G H x y dx dy Q R hx hy q fin => ?_⟩
  unfold zB0 at q
  cases dx with
  | int i =>
    cases dy with
    | int j =>
      obtain rfl := hx.i
      obtain rfl := hy.i
      exact ⟨i, j, rfl, rfl, fin _ H _ (rs_d (.bl _)) q⟩
    | _ => exact q.elim
  | _ => exact q.elim
/-- what a product asks: together less than a million bits, or a short right factor -/
def CMulW (i j : Int) : Prop := L2.CMulW i j ∨ Builtin.Int.intBits j ≤ 64
theorem CMulW.ok {i j : Int} (h : CMulW i j) : PySem.IntMulOk i j := by
  rcases h with h | h
  · exact L2.CMulW.ok h
  · exact IntMulOk.of_right h
theorem op_mulV {X : Cx} : OpR X (binaryOp .Mult) (rI CMulW fun i j => .int (i * j)) := opI fun i j _ _ _ _ _ ok q => PyProof.Rows.mul_int q ok.ok
theorem mulR {i j : Int} (h : j.natAbs < 2 ^ 60) : CMulW i j := by
  refine .inr ?_
  unfold Builtin.Int.intBits
  split
  · omega
  · next z =>
    have : j.natAbs ≠ 0 := fun q => z (by simp; omega)
    have := (Nat.log2_lt this).mpr h
    omega
def zMulC : Z2 := fun x y Q => match x, y with
  | .int i, .int j => Sd (CMulW i j) ∧ Q (.d (.int (i * j)))
  | _, _ => False
def zSubC : Z2 := fun x y Q => match x, y with
  | .int i, .int j => Q (.d (.int (i - j)))
  | _, _ => False
def zFdivC : Z2 := fun x y Q => match x, y with
  | .int i, .int j => Sd (CDivW i j) ∧ Q (.d (.int (i / j)))
  | _, _ => False
def zModC : Z2 := fun x y Q => match x, y with
  | .int i, .int j => Sd (0 < j) ∧ Q (.d (.int (i % j)))
  | _, _ => False
def zPowC : Z2 := fun x y Q => match x, y with
  | .int i, .int j => Sd (CPow i j) ∧ Q (.d (.int (i ^ j.toNat)))
  | _, _ => False
def zShlC : Z2 := fun x y Q => match x, y with
  | .int i, .int j => Sd (CPow i j) ∧ Q (.d (.int (i * 2 ^ j.toNat)))
  | _, _ => False
def zShrC : Z2 := fun x y Q => match x, y with
  | .int i, .int j => Sd (0 ≤ j) ∧ Q (.d (.int (i / 2 ^ j.toNat)))
  | _, _ => False
def zBAndC : Z2 := fun x y Q => match x, y with
  | .int i, .int j => Q (.d (.int (Builtin.bitAnd i j)))
  | _, _ => False
def zBOrC : Z2 := fun x y Q => match x, y with
  | .int i, .int j => Q (.d (.int (Builtin.bitOr i j)))
  | _, _ => False
def zLtC : Z2 := fun x y Q => match x, y with
  | .int i, .int j => Q (.d (.bl (decide (i < j))))
  | _, _ => False
def zLeC : Z2 := fun x y Q => match x, y with
  | .int i, .int j => Q (.d (.bl (decide (i ≤ j))))
  | _, _ => False
def zGtC : Z2 := fun x y Q => match x, y with
  | .int i, .int j => Q (.d (.bl (decide (j < i))))
  | _, _ => False
def zGeC : Z2 := fun x y Q => match x, y with
  | .int i, .int j => Q (.d (.bl (decide (j ≤ i))))
  | _, _ => False
theorem oz_sub : OpZ X (binaryOp .Sub) zSubC := opz_i0 op_sub
theorem oz_fdiv : OpZ X (binaryOp .FloorDiv) zFdivC := opz_i op_fdivW
theorem oz_mod : OpZ X (binaryOp .Mod) zModC := opz_i op_mod
theorem oz_pow : OpZ X (binaryOp .Pow) zPowC := opz_i op_pow
theorem oz_shl : OpZ X (binaryOp .LShift) zShlC := opz_i op_shl
theorem oz_shr : OpZ X (binaryOp .RShift) zShrC := opz_i op_shr
theorem oz_and : OpZ X (binaryOp .BitAnd) zBAndC := opz_i0 op_and
theorem oz_or : OpZ X (binaryOp .BitOr) zBOrC := opz_i0 op_or
theorem oz_lt : OpZ X (compareOp .Lt) zLtC := opz_b0 op_lt
theorem oz_le : OpZ X (compareOp .LtE) zLeC := opz_b0 op_le
theorem oz_gt : OpZ X (compareOp .Gt) zGtC := opz_b0 op_gt
theorem oz_ge : OpZ X (compareOp .GtE) zGeC := opz_b0 op_ge
/-- a list + a list, whether they stand still or not -/
def rCatR : R2 := fun x y H Q => ∃ l b xs zs, x = .ref l ∧ y = .ref b ∧ Rd H l (.lst xs) ∧ Rd H b (.lst zs) ∧ xs.length + zs.length ≤ sizeLine ∧ ∀ p, H p = none → Q (.ref p) (upd H p (.lst (xs ++ zs)))
theorem op_catR : OpR X (binaryOp .Add) rCatR := by
  intro pins s σ H x y v u Q I rx ry h
  obtain ⟨l, b, xs, zs, rfl, rfl, hH, hB, hz, q⟩ := h
  cases rx
  cases ry
  obtain ⟨z, its, n, r, e⟩ := hH.ok I.hok
  obtain ⟨z2, its2, n2, r2, e2⟩ := hB.ok I.hok
  have hl := r.length
  have hl2 := r2.length
  refine PySem.P.add_list e e2 ?_ (by rw [List.size_toArray, List.size_toArray]; omega)
  have ea : its.toArray ++ its2.toArray = (its ++ its2).toArray := by simp
  rw [ea]
  exact ⟨.ref _, _, I.lnew (t' := s.toks) (r.append r2) (by rw [List.length_append]; omega), rfl, q _ I.fresh⟩
theorem rs_new {G : Addr → Prop} {H : Hp} {p : Addr} {xs : List V} {ds : List D} (np : H p = none) (r : DRs X.K G H xs ds) : RS X.K G H (upd H p (.lst xs)) (.ref p) (.new (.lst ds)) := by
  have k : Same H (upd H p (.lst xs)) := fun b o e => by rw [upd_ne (ne_of_none e np)]; exact e
  exact ⟨[p], k, .lst upd_same (r.kp (Kp.of k)), by simp, fun a h => by simp at h; rw [h]; exact np⟩
theorem rs_tup {G : Addr → Prop} {H : Hp} {p : Addr} {xs : List V} {ds : List D} (np : H p = none) (r : DRs X.K G H xs ds) : RS X.K G H (upd H p (.tup xs)) (.ref p) (.d (.tup ds)) := by
  have k : Same H (upd H p (.tup xs)) := fun b o e => by rw [upd_ne (ne_of_none e np)]; exact e
  exact ⟨k, .tup (SqT.of upd_same) (r.kp (Kp.of k))⟩
def zAddC : Z2 := fun x y Q => match x, y with
  | .int i, .int j => Q (.d (.int (i + j)))
  | .str a, .str b => Sd (a.length + b.length ≤ sizeLine) ∧ Q (.d (.str (a ++ b)))
  | .lst m xs, .lst n ys => Sd ((m != 2 && n != 2) = true) ∧ Sd (xs.length + ys.length ≤ sizeLine) ∧ Q (.new (.lst (xs ++ ys)))
  | .tup xs, .tup ys => Sd (xs.length + ys.length ≤ sizeLine) ∧ Q (.d (.tup (xs ++ ys)))
  | _, _ => False
theorem oz_add : OpZ X (binaryOp .Add) zAddC := by
  refine ⟨_, (op_add.or op_add_str).or (op_catR.or op_catA), fun G H x y dx dy Q R hx hy q fin => ?_⟩
  unfold zAddC at q
  cases dx with
  | int i =>
    cases dy with
    | int j => obtain rfl := hx.i; obtain rfl := hy.i; exact .inl (.inl ⟨i, j, rfl, rfl, fin _ H _ (rs_d (.int _)) q⟩)
    | _ => exact q.elim
  | str a =>
    cases dy with
    | str b => obtain rfl := hx.s; obtain rfl := hy.s; exact .inl (.inr ⟨a, b, rfl, rfl, q.1.h, fin _ H _ (rs_d (.str _)) q.2⟩)
    | _ => exact q.elim
  | lst m xs =>
    cases dy with
    | lst n ys =>
      have hm := q.1.h
      simp at hm
      obtain ⟨a, vs, rfl, h1, r1⟩ := hx.rd hm.1
      obtain ⟨b, ws, rfl, h2, r2⟩ := hy.rd hm.2
      refine .inr (.inl ⟨a, b, vs, ws, rfl, rfl, h1, h2, ?_, fun p np => fin _ _ _ (rs_new np (r1.append r2)) q.2.2⟩)
      rw [r1.length, r2.length]; exact q.2.1.h
    | _ => exact q.elim
  | tup xs =>
    cases dy with
    | tup ys =>
      obtain ⟨a, vs, rfl, h1, r1⟩ := hx.tq
      obtain ⟨b, ws, rfl, h2, r2⟩ := hy.tq
      refine .inr (.inr ⟨a, b, vs, ws, rfl, rfl, h1, h2, ?_, fun e => ?_, fun _ e => ?_, fun _ _ p np => fin _ _ _ (rs_tup np (r1.append r2)) q.2⟩)
      · rw [r1.length, r2.length]; exact q.1.h
      · subst e; cases r1; exact fin _ H _ (rs_d (.tup h2 r2)) q.2
      · subst e
        cases r2
        refine fin _ H (.d (.tup (xs ++ []))) ?_ q.2
        rw [List.append_nil]
        exact rs_d (.tup h1 r1)
    | _ => exact q.elim
  | _ => exact q.elim
/-- a list times an int, whether it stands still or not -/
def rRepR : R2 := fun x y H Q => ∃ l k xs, x = .ref l ∧ y = .int k ∧ H l = some (.lst xs) ∧ -(2 ^ 63) ≤ k ∧ k < 2 ^ 63 ∧ xs.length * k.toNat ≤ sizeLine ∧
  ∀ p, H p = none → Q (.ref p) (upd H p (.lst (List.replicate k.toNat xs).flatten))
theorem oz_mul : OpZ X (binaryOp .Mult) zMulC := by
  refine ⟨_, op_mulV, fun G H x y dx dy Q R hx hy q fin => ?_⟩
  unfold zMulC at q
  cases dx with
  | int i =>
    cases dy with
    | int j => obtain rfl := hx.i; obtain rfl := hy.i; exact ⟨i, j, rfl, rfl, q.1.h, fin _ H _ (rs_d (.int _)) q.2⟩
    | _ => exact q.elim
  | _ => exact q.elim
/-! == and != -/
/-- two that are told apart by their values alone -/
def sc2 : D → D → Bool
  | .non, .non => true | .non, .int _ => true | .int _, .non => true | .non, .bl _ => true | .bl _, .non => true | .non, .str _ => true | .str _, .non => true
  | .int _, .int _ => true | .bl _, .bl _ => true | .str _, .str _ => true
  | .int _, .str _ => true | .str _, .int _ => true | .bl _, .str _ => true | .str _, .bl _ => true
  | _, _ => false
def zEqC : Z2 := fun x y Q => match sc2 x y with
  | true => Q (.d (.bl (D.eq x y)))
  | false => Sd (x.pl 60 = true ∧ y.pl 60 = true) ∧ Q (.d (.bl (D.eq x y)))
def zNeC : Z2 := fun x y Q => match sc2 x y with
  | true => Q (.d (.bl (!D.eq x y)))
  | false => Sd (x.pl 60 = true ∧ y.pl 60 = true) ∧ Q (.d (.bl (!D.eq x y)))
theorem sc2_ok {K : Frag} {G : Addr → Prop} {H : Hp} {x y : V} {dx dy : D} (hx : VR K G H x dx) (hy : VR K G H y dy) (h : sc2 dx dy = true) : scal x y = true ∧ decide (x = y) = D.eq dx dy := by
  cases dx with
  | non =>
    obtain rfl := hx.n
    cases dy with
    | non => obtain rfl := hy.n; exact ⟨rfl, by simp [D.eq]⟩
    | bl b => obtain rfl := hy.b; exact ⟨rfl, by simp [D.eq]⟩
    | int i => obtain rfl := hy.i; exact ⟨rfl, by simp [D.eq]⟩
    | str i => obtain rfl := hy.s; exact ⟨rfl, by simp [D.eq]⟩
    | _ => cases h
  | bl a =>
    obtain rfl := hx.b
    cases dy with
    | non => obtain rfl := hy.n; exact ⟨rfl, by simp [D.eq]⟩
    | bl b => obtain rfl := hy.b; exact ⟨rfl, by simp [D.eq, Bool.beq_eq_decide_eq]⟩
    | str i => obtain rfl := hy.s; exact ⟨rfl, by simp [D.eq]⟩
    | _ => cases h
  | int a =>
    obtain rfl := hx.i
    cases dy with
    | non => obtain rfl := hy.n; exact ⟨rfl, by simp [D.eq]⟩
    | int b => obtain rfl := hy.i; exact ⟨rfl, by simp [D.eq]⟩
    | str i => obtain rfl := hy.s; exact ⟨rfl, by simp [D.eq]⟩
    | _ => cases h
  | str a =>
    obtain rfl := hx.s
    cases dy with
    | non => obtain rfl := hy.n; exact ⟨rfl, by simp [D.eq]⟩
    | bl b => obtain rfl := hy.b; exact ⟨rfl, by simp [D.eq]⟩
    | int i => obtain rfl := hy.i; exact ⟨rfl, by simp [D.eq]⟩
    | str i => obtain rfl := hy.s; exact ⟨rfl, by simp [D.eq]⟩
    | _ => cases h
  | _ => cases h
theorem oz_eq (hu : X.A.units + 64 < cLine) : OpZ X (compareOp .Eq) zEqC := by
  refine ⟨_, op_eq.or (op_eqD hu), fun G H x y dx dy Q R hx hy q fin => ?_⟩
  unfold zEqC at q
  cases hs : sc2 dx dy with
  | true =>
    simp only [hs] at q
    obtain ⟨h1, h2⟩ := sc2_ok hx hy hs
    exact .inl ⟨h1, by rw [h2]; exact fin _ H _ (rs_d (.bl _)) q⟩
  | false =>
    simp only [hs] at q
    obtain ⟨h1, h2⟩ := q.1.h
    refine .inr ⟨_, _, hx.dp h1, hy.dp h2, pl_shaped h1, pl_shaped h2, ?_⟩
    rw [eq_eqv h1 h2]
    exact fin _ H _ (rs_d (.bl _)) q.2
theorem oz_ne (hu : X.A.units + 64 < cLine) : OpZ X (compareOp .NotEq) zNeC := by
  refine ⟨_, op_ne.or (op_neD hu), fun G H x y dx dy Q R hx hy q fin => ?_⟩
  unfold zNeC at q
  cases hs : sc2 dx dy with
  | true =>
    simp only [hs] at q
    obtain ⟨h1, h2⟩ := sc2_ok hx hy hs
    exact .inl ⟨h1, by rw [h2]; exact fin _ H _ (rs_d (.bl _)) q⟩
  | false =>
    simp only [hs] at q
    obtain ⟨h1, h2⟩ := q.1.h
    refine .inr ⟨_, _, hx.dp h1, hy.dp h2, pl_shaped h1, pl_shaped h2, ?_⟩
    rw [eq_eqv h1 h2]
    exact fin _ H _ (rs_d (.bl _)) q.2
def D.isN : D → Bool
  | .non => true
  | _ => false
theorem isN_ok {K : Frag} {G : Addr → Prop} {H : Hp} {x : V} {dx : D} (hx : VR K G H x dx) : decide (x = .non) = dx.isN := by
  cases hx with
  | d h => cases h <;> simp [D.isN]
  | l a b => simp [D.isN]
  | k a e b => simp [D.isN]
def zIsC : Z2 := fun x y Q => match y with
  | .non => Q (.d (.bl x.isN))
  | .bl b => match x with
    | .bl a => Q (.d (.bl (decide (a = b))))
    | _ => False
  | _ => False
def zIsNotC : Z2 := fun x y Q => match y with
  | .non => Q (.d (.bl (!x.isN)))
  | _ => False
theorem oz_is : OpZ X (compareOp .Is) zIsC := by
  refine ⟨_, op_isN.or op_is_bl, fun G H x y dx dy Q R hx hy q fin => ?_⟩
  cases dy with
  | non => exact .inl ⟨hy.n, by rw [isN_ok hx]; exact fin _ H _ (rs_d (.bl _)) q⟩
  | bl b =>
    cases dx with
    | bl a =>
      obtain rfl := hx.b
      obtain rfl := hy.b
      exact .inr ⟨a, b, rfl, rfl, fin _ H _ (rs_d (.bl _)) q⟩
    | _ => exact q.elim
  | _ => exact q.elim
theorem oz_isnot : OpZ X (compareOp .IsNot) zIsNotC := by
  refine ⟨_, op_notN, fun G H x y dx dy Q R hx hy q fin => ?_⟩
  cases dy with
  | non => exact ⟨hy.n, by rw [isN_ok hx]; exact fin _ H _ (rs_d (.bl _)) q⟩
  | _ => exact q.elim
end

/-! ## arguments, displays -/
section
variable {X : Cx} {G : Addr → Prop} {B : Hp} {Wz : WZ} {k : Nat} {e a b c : Expr} {es : List Expr} {t ta tb tc : ZT} {ts : ZTA} {pos : Pos}
def zaNil : ZTA := fun ss Q => Q [] ss
def zaCons (t : ZT) (ts : ZTA) : ZTA := fun ss Q => zN t ss fun r s1 => match r with
  | .new _ => False
  | r => ts s1 fun rs s2 => Q (r :: rs) s2
theorem za_nil : ZA X G B [] zaNil := ⟨_, pa_nil, fun σ H ss Q R S hw fin => fin [] H [] ss (Kp.refl H) S trivial hw⟩
theorem za_cons (h : ZE X G B e t) (h2 : ZA X G B es ts) (hs : starEach (e :: es) X.env = (false, eval e X.env) :: starEach es X.env := by rfl) : ZA X G B (e :: es) (zaCons t ts) := by
  obtain ⟨te, p, z⟩ := z_n h
  obtain ⟨te2, p2, z2⟩ := h2
  refine ⟨_, pa_cons p p2 hs, fun σ H ss Q R S hw fin => ?_⟩
  refine z σ H ss _ _ S hw fun v H1 r s1 k1 rr q => ?_
  cases r with
  | new o => exact q.elim
  | d x => exact z2 σ H1 s1 _ _ rr.1 q fun vs H2 rs s2 k2 S2 ar q2 => fin (v :: vs) H2 (.d x :: rs) s2 (k1.trans k2) S2 ⟨rr.2.kp k2, ar⟩ q2
  | loc i => exact z2 σ H1 s1 _ _ rr.1 q fun vs H2 rs s2 k2 S2 ar q2 => fin (v :: vs) H2 (.loc i :: rs) s2 (k1.trans k2) S2 ⟨rr.2, ar⟩ q2
/-! arguments that become part of something: data -/
abbrev ZTDs := SS → (List D → SS → Prop) → Prop
def ZrDs (K : Frag) (G : Addr → Prop) (B : Hp) (te : TA) (t : ZTDs) : Prop := ∀ (σ : St) (H : Hp) (ss : SS) (Q : List D → SS → Prop) (R : List V → Hp → Prop), Sm K G B [] σ H ss → t ss Q →
  (∀ vs H' ds ss', Kp H H' → Sm K G B [] σ H' ss' → DRs K G H' vs ds → Q ds ss' → R vs H') → te σ H R
def ZDs (X : Cx) (G : Addr → Prop) (B : Hp) (es : List Expr) (t : ZTDs) : Prop := ∃ te, PA X es te ∧ ZrDs X.K G B te t
def zdNil : ZTDs := fun ss Q => Q [] ss
def zdCons (t : ZT) (ts : ZTDs) : ZTDs := fun ss Q => zF t ss fun d s1 => ts s1 fun ds s2 => Q (d :: ds) s2
theorem zd_nil : ZDs X G B [] zdNil := ⟨_, pa_nil, fun σ H ss Q R S hw fin => fin [] H [] ss (Kp.refl H) S .nil hw⟩
theorem zd_cons {ts : ZTDs} (h : ZE X G B e t) (h2 : ZDs X G B es ts) (hs : starEach (e :: es) X.env = (false, eval e X.env) :: starEach es X.env := by rfl) : ZDs X G B (e :: es) (zdCons t ts) := by
  obtain ⟨te, p, z⟩ := z_fz h
  obtain ⟨te2, p2, z2⟩ := h2
  refine ⟨_, pa_cons p p2 hs, fun σ H ss Q R S hw fin => ?_⟩
  refine z σ H ss _ _ S hw fun v H1 d s1 k1 S1 r q => ?_
  exact z2 σ H1 s1 _ _ S1 q fun vs H2 ds s2 k2 S2 ar q2 => fin (v :: vs) H2 (d :: ds) s2 (k1.trans k2) S2 (.cons (r.kp k2) ar) q2
def zLst (ts : ZTDs) : ZT := fun ss Q => ts ss fun ds s => Sd (ds.length ≤ sizeLine) ∧ Q (.new (.lst ds)) s
def zTup (ts : ZTDs) : ZT := fun ss Q => ts ss fun ds s => Sd (ds.length ≤ sizeLine) ∧ Q (.d (.tup ds)) s
theorem z_lst {ts : ZTDs} (h : ZDs X G B es ts) : ZE X G B (.List es pos) (zLst ts) := by
  obtain ⟨te, p, z⟩ := h
  refine ⟨_, pe_lst p, fun σ H ss Q R S hw fin => ?_⟩
  refine z σ H ss _ _ S hw fun vs H1 ds s1 k1 S1 r q => ⟨by rw [r.length]; exact q.1.h, fun p np => ?_⟩
  have rs := rs_new (X := X) np r
  exact fin _ _ _ s1 (k1.trans (Kp.of rs.same)) (rs.rr S1) q.2
theorem z_tup {ts : ZTDs} {x1} (h : ZDs X G B es ts) : ZE X G B (.Tuple es x1 pos) (zTup ts) := by
  obtain ⟨te, p, z⟩ := h
  refine ⟨_, pe_tup p, fun σ H ss Q R S hw fin => ?_⟩
  refine z σ H ss _ _ S hw fun vs H1 ds s1 k1 S1 r q => ⟨by rw [r.length]; exact q.1.h, fun p np => ?_⟩
  have rs := rs_tup (X := X) np r
  exact fin _ _ _ s1 (k1.trans (Kp.of rs.same)) (rs.rr S1) q.2
/-! ## subscripts -/
theorem atI_some {α β : Type} {xs : List α} {ys : List β} {i : Int} {y : β} (hl : xs.length = ys.length) (h : atI ys i = some y) : ∃ (x : α) (j : Nat), atI xs i = some x ∧ xs[j]? = some x ∧ ys[j]? = some y := by
  unfold atI at h ⊢
  rw [hl]
  cases e : ixN ys.length i with
  | none => rw [e] at h; cases h
  | some j =>
    rw [e] at h
    have hj : j < ys.length := (List.getElem?_eq_some_iff.mp h).1
    obtain ⟨x, hx⟩ : ∃ x, xs[j]? = some x := ⟨xs[j]'(by omega), by simp [hl, hj]⟩
    exact ⟨x, j, hx, hx, h⟩
def zIxC : Z2 := fun x y Q => match x, y with
  | .lst _ xs, .int i => ∃ d, atI xs i = some d ∧ Q (.d d)
  | .tup xs, .int i => ∃ d, atI xs i = some d ∧ Q (.d d)
  | .str z, .int i => Sd (z.length ≤ sizeLine) ∧ ∃ c, atI z.cps.toList i = some c ∧ Q (.d (.str ⟨#[c]⟩))
  | _, _ => False
theorem z_ix (ha : ZE X G B a ta) (hb : ZE X G B b tb) (hs : PlainIx b := by exact fun _ _ => rfl) : ZE X G B (.Subscript a b pos) (zBin zIxC ta tb) := by
  obtain ⟨tea, pa, za⟩ := z_n ha
  obtain ⟨teb, pb, zb⟩ := z_n hb
  refine ⟨_, pe_ix ix_seq pa pb hs, bin_zr za zb fun G H x y dx dy Q R hx hy q fin => ?_⟩
  unfold zIxC at q
  cases dx with
  | lst m xs =>
    cases dy with
    | int i =>
      obtain rfl := hy.i
      obtain ⟨p, vs, rfl, hq, r⟩ := hx.sq
      obtain ⟨d, e, q⟩ := q
      obtain ⟨v, j, e1, e2, e3⟩ := atI_some r.length e
      obtain ⟨v', e4, rd⟩ := r.get e3
      rw [e2] at e4; cases e4
      exact .inl ⟨p, vs, i, v, rfl, rfl, hq, e1, fin v H _ (rs_d rd) q⟩
    | _ => exact q.elim
  | tup xs =>
    cases dy with
    | int i =>
      obtain rfl := hy.i
      obtain ⟨p, vs, rfl, hq, r⟩ := hx.tq
      obtain ⟨d, e, q⟩ := q
      obtain ⟨v, j, e1, e2, e3⟩ := atI_some r.length e
      obtain ⟨v', e4, rd⟩ := r.get e3
      rw [e2] at e4; cases e4
      exact .inr (.inl ⟨p, vs, i, v, rfl, rfl, hq, e1, fin v H _ (rs_d rd) q⟩)
    | _ => exact q.elim
  | str z =>
    cases dy with
    | int i =>
      obtain rfl := hx.s
      obtain rfl := hy.i
      obtain ⟨hz, c, e, q⟩ := q
      exact .inr (.inr ⟨z, i, c, rfl, rfl, hz.h, e, fin _ H _ (rs_d (.str _)) q⟩)
    | _ => exact q.elim
  | _ => exact q.elim
/-! slices -/
abbrev ZTO := SS → (Option Int → SS → Prop) → Prop
def ZO (X : Cx) (G : Addr → Prop) (B : Hp) (e : Option Expr) (t : ZTO) : Prop := ∃ te : TO, PO X e te ∧ ∀ (σ : St) (H : Hp) (ss : SS) (Q : Option Int → SS → Prop) (R : Option Int → Hp → Prop), Sm X.K G B [] σ H ss → t ss Q →
  (∀ o H' ss', Kp H H' → Sm X.K G B [] σ H' ss' → Q o ss' → R o H') → te σ H R
def zoN : ZTO := fun ss Q => Q none ss
def zoS (t : ZT) : ZTO := fun ss Q => t ss fun r s => match r with
  | .d (.int i) => Q (some i) s
  | _ => False
theorem zo_none : ZO X G B none zoN := ⟨_, po_none, fun σ H ss Q R S hw fin => fin none H ss (Kp.refl H) S hw⟩
theorem zo_some (h : ZE X G B e t) : ZO X G B (some e) (zoS t) := by
  obtain ⟨te, p, z⟩ := h
  refine ⟨_, po_some p, fun σ H ss Q R S hw fin => z σ H ss _ _ S hw fun v H1 r s1 k1 rr q => ?_⟩
  cases r with
  | d x =>
    cases x with
    | int i =>
      obtain ⟨S1, r⟩ := rr
      cases r
      exact ⟨i, rfl, fin _ H1 s1 k1 S1 q⟩
    | _ => exact q.elim
  | _ => exact q.elim
def cutD {α : Type} (xs : List α) (lo hi : Option Int) : List α := (xs.drop (HT.sIx xs.length 0 lo)).take (HT.sIx xs.length xs.length hi - HT.sIx xs.length 0 lo)
def zSl (t : ZT) (tl th : ZTO) : ZT := fun ss Q => zN t ss fun r s1 => tl s1 fun lo s2 => th s2 fun hi s3 => match cv s3 r with
  | some (.lst _ xs) => Q (.new (.lst (cutD xs lo hi))) s3
  | some (.tup xs) => Q (.d (.tup (cutD xs lo hi))) s3
  | some (.str z) => Sd (z.length ≤ sizeLine) ∧ Q (.d (.str (cutS z lo hi))) s3
  | _ => False
theorem DRs.cut {K : Frag} {H : Hp} {vs : List V} {ds : List D} (h : DRs K G H vs ds) (lo hi : Option Int) : DRs K G H (cutV vs lo hi) (cutD ds lo hi) := by
  unfold cutV cutD
  rw [h.length]
  exact (h.drop _).take _
theorem z_sl {lo hi : Option Expr} {tl th : ZTO} {p2 : Pos} (h : ZE X G B e t) (hl : ZO X G B lo tl) (hh : ZO X G B hi th) : ZE X G B (.Subscript e (.Slice lo hi none p2) pos) (zSl t tl th) := by
  obtain ⟨te, p, z⟩ := z_n h
  obtain ⟨te1, p1, z1⟩ := hl
  obtain ⟨te2, p2, z2⟩ := hh
  refine ⟨_, pe_slice (sl_list.or (sl_tupA.or sl_str)) p p1 p2, fun σ H ss Q R S hw fin => ?_⟩
  refine z σ H ss _ _ S hw fun v H1 r s1 k1 rr q => ?_
  refine z1 σ H1 s1 _ _ rr.sem q fun lo H2 s2 k2 S2 q2 => ?_
  refine z2 σ H2 s2 _ _ S2 q2 fun hi H3 s3 k3 S3 q3 => ?_
  have kk := (k1.trans k2).trans k3
  cases ev : cv s3 r with
  | none => simp only [ev] at q3
  | some x =>
    have vr := cv_vr S3 (k2.trans k3) rr ev
    cases x with
    | lst m xs =>
      simp only [ev] at q3
      obtain ⟨a, vs, rfl, hq, rs⟩ := vr.sq
      refine .inl ⟨a, vs, rfl, hq, fun p np => ?_⟩
      have rn := rs_new (X := X) np (rs.cut lo hi)
      exact fin _ _ _ s3 (kk.trans (Kp.of rn.same)) (rn.rr S3) q3
    | tup xs =>
      simp only [ev] at q3
      obtain ⟨a, vs, rfl, hq, rs⟩ := vr.tq
      refine .inr (.inl ⟨a, vs, rfl, hq, fun hw => ?_, fun _ p np => ?_⟩)
      · have e : cutD xs lo hi = xs := by
          unfold cutD
          rw [← rs.length, hw.1, hw.2]
          simp [rs.length]
        rw [e] at q3
        exact fin _ H3 _ s3 kk (.d' S3 (.tup hq rs)) q3
      · have rn := rs_tup (X := X) np (rs.cut lo hi)
        exact fin _ _ _ s3 (kk.trans (Kp.of rn.same)) (rn.rr S3) q3
    | str zz =>
      simp only [ev] at q3
      obtain rfl := vr.s
      exact .inr (.inr ⟨zz, rfl, q3.1.h, fin _ H3 _ s3 kk (.d' S3 (.str _)) q3.2⟩)
    | _ => simp only [ev] at q3
/-! ## calls of built-in things -/
def cvs (ss : SS) : List RV → Option (List D)
  | [] => some []
  | r :: rs => match cv ss r, cvs ss rs with
    | some d, some ds => some (d :: ds)
    | _, _ => none
inductive VRs (K : Frag) (G : Addr → Prop) (H : Hp) : List V → List D → Prop
  | nil : VRs K G H [] []
  | cons {v : V} {d : D} {vs : List V} {ds : List D} : VR K G H v d → VRs K G H vs ds → VRs K G H (v :: vs) (d :: ds)
theorem VRs.length {K : Frag} {H : Hp} {vs : List V} {ds : List D} (h : VRs K G H vs ds) : vs.length = ds.length := by
  induction h with
  | nil => rfl
  | cons _ _ ih => simp [ih]
theorem cvs_vr {K : Frag} {σ : St} {H : Hp} {ss : SS} (S : Sm K G B [] σ H ss) : ∀ {rs : List RV} {vs : List V} {ds : List D}, AR K G σ H vs rs → cvs ss rs = some ds → VRs K G H vs ds
  | [], [], _, _, e => by simp [cvs] at e; subst e; exact .nil
  | [], _ :: _, _, h, _ => h.elim
  | .d x :: rs, v :: vs, ds, h, e => by
    cases e1 : cv ss (.d x) with
    | none => simp [cvs, e1] at e
    | some y =>
      cases e2 : cvs ss rs with
      | none => simp [cvs, e1, e2] at e
      | some ys =>
        simp [cvs, e1, e2] at e; subst e
        exact .cons (cv_vr S (Kp.refl _) (.d' S h.1) e1) (cvs_vr S h.2 e2)
  | .loc i :: rs, v :: vs, ds, h, e => by
    cases e1 : cv ss (.loc i) with
    | none => simp [cvs, e1] at e
    | some y =>
      cases e2 : cvs ss rs with
      | none => simp [cvs, e1, e2] at e
      | some ys =>
        simp [cvs, e1, e2] at e; subst e
        exact .cons (cv_vr S (Kp.refl _) (.l' S h.1) e1) (cvs_vr S h.2 e2)
  | .new o :: rs, v :: vs, ds, h, e => h.elim
  | .d x :: rs, [], ds, h, e => h.elim
  | .loc x :: rs, [], ds, h, e => h.elim
  | .new x :: rs, [], ds, h, e => h.elim
abbrev ZL := List D → (RV → Prop) → Prop
def CalZ (X : Cx) (f : Value) (z : ZL) : Prop := ∃ r, CallR X f r ∧ ∀ (G : Addr → Prop) (H : Hp) (vs : List V) (ds : List D) (Q : RV → Prop) (R : VK), VRs X.K G H vs ds → z ds Q → (∀ v H' rv, RS X.K G H H' v rv → Q rv → R v H') → r vs H R
def zCB (z : ZL) (ts : ZTA) : ZT := fun ss Q => ts ss fun rs s => match cvs s rs with
  | some ds => z ds fun r => Q r s
  | none => False
theorem cb_zr {z : ZL} {r} {te : TA} (h : ZrA X.K G B te ts) (hr : ∀ (G : Addr → Prop) (H : Hp) (vs : List V) (ds : List D) (Q : RV → Prop) (R : VK), VRs X.K G H vs ds → z ds Q → (∀ v H' rv, RS X.K G H H' v rv → Q rv → R v H') → r vs H R) :
    Zr X.K G B (tCB r te) (zCB z ts) := by
  intro σ H ss Q R S hw fin
  refine h σ H ss _ _ S hw fun vs H1 rs s1 k1 S1 ar q => ?_
  cases e : cvs s1 rs with
  | none => simp only [e] at q
  | some ds =>
    simp only [e] at q
    exact hr G H1 vs ds _ _ (cvs_vr S1 ar e) q fun v H2 rv rs q2 => fin v H2 rv s1 (k1.trans (Kp.of rs.same)) (rs.rr S1) q2
theorem z_callB {x : Str} {id : String} {z : ZL} {p : Pos} (hc : CalZ X (.builtin id) z) (hg : Gl X x) (hm : X.mg x = none) (hv : bootBuiltins x = some (.builtin id)) (ha : ZA X G B (e :: es) ts) (hn : x ≠ "__name__" := by decide) (hdb : (x == ("__debug__" : Str)) = false := by decide)
    (he : starEach (e :: es) X.env = (false, eval e X.env) :: starEach es X.env := by rfl) (hpl : (backTo pos (starEach es X.env)).any (·.1) = false := by rfl) : ZE X G B (.Call (.Name x p) (e :: es) [] pos) (zCB z ts) := by
  obtain ⟨r, h1, h2⟩ := hc
  obtain ⟨te, pa, za⟩ := ha
  exact ⟨_, pe_callB h1 hg hm hv pa hn hdb he hpl, cb_zr za h2⟩
theorem z_callTy {x : Str} {T : String} {z : ZL} {p : Pos} (hc : CalZ X (.type T) z) (hg : Gl X x) (hm : X.mg x = none) (hv : bootBuiltins x = some (.type T)) (ha : ZA X G B (e :: es) ts) (hn : x ≠ "__name__" := by decide) (hdb : (x == ("__debug__" : Str)) = false := by decide)
    (he : starEach (e :: es) X.env = (false, eval e X.env) :: starEach es X.env := by rfl) (hpl : (backTo pos (starEach es X.env)).any (·.1) = false := by rfl) : ZE X G B (.Call (.Name x p) (e :: es) [] pos) (zCB z ts) := by
  obtain ⟨r, h1, h2⟩ := hc
  obtain ⟨te, pa, za⟩ := ha
  exact ⟨_, pe_callTy h1 hg hm hv pa hn hdb he hpl, cb_zr za h2⟩
/-! len, list, tuple, sum, all, any, min, max, isinstance -/
def zLenC : ZL := fun ds Q => match ds with
  | [.lst _ xs] => Q (.d (.int xs.length))
  | [.tup xs] => Q (.d (.int xs.length))
  | [.str z] => Sd (z.length ≤ sizeLine) ∧ Q (.d (.int z.length))
  | _ => False
theorem cz_len : CalZ X (.builtin "len") zLenC := by
  refine ⟨_, call_len_seq.or call_len_str, fun G H vs ds Q R h q fin => ?_⟩
  cases h with
  | nil => exact q.elim
  | @cons v d vs ds r rs =>
    cases rs with
    | cons _ _ => cases d <;> exact q.elim
    | nil =>
      cases d with
      | lst m xs =>
        obtain ⟨a, ws, rfl, hq, rr⟩ := r.sq
        exact .inl ⟨a, ws, rfl, .inl hq, by rw [rr.length]; exact fin _ H _ (rs_d (.int _)) q⟩
      | tup xs =>
        obtain ⟨a, ws, rfl, hq, rr⟩ := r.tq
        exact .inl ⟨a, ws, rfl, .inr hq, by rw [rr.length]; exact fin _ H _ (rs_d (.int _)) q⟩
      | str z =>
        obtain rfl := r.s
        exact .inr ⟨z, rfl, q.1.h, fin _ H _ (rs_d (.int _)) q.2⟩
      | _ => exact q.elim
def zListC : ZL := fun ds Q => match ds with
  | [.lst _ xs] => Q (.new (.lst xs))
  | [.tup xs] => Q (.new (.lst xs))
  | _ => False
theorem cz_list : CalZ X (.type "list") zListC := by
  refine ⟨_, call_list_of, fun G H vs ds Q R h q fin => ?_⟩
  cases h with
  | nil => exact q.elim
  | @cons v d vs ds r rs =>
    cases rs with
    | cons _ _ => cases d <;> exact q.elim
    | nil =>
      cases d with
      | lst m xs =>
        obtain ⟨a, ws, rfl, hq, rr⟩ := r.sq
        exact ⟨a, ws, rfl, .inl hq, fun p np => fin _ _ _ (rs_new np rr) q⟩
      | tup xs =>
        obtain ⟨a, ws, rfl, hq, rr⟩ := r.tq
        exact ⟨a, ws, rfl, .inr hq, fun p np => fin _ _ _ (rs_new np rr) q⟩
      | _ => exact q.elim
def zTupleC : ZL := fun ds Q => match ds with
  | [.lst _ xs] => Q (.d (.tup xs))
  | [.tup xs] => Q (.d (.tup xs))
  | _ => False
theorem cz_tuple : CalZ X (.type "tuple") zTupleC := by
  refine ⟨_, call_tuple_of, fun G H vs ds Q R h q fin => ?_⟩
  cases h with
  | nil => exact q.elim
  | @cons v d vs ds r rs =>
    cases rs with
    | cons _ _ => cases d <;> exact q.elim
    | nil =>
      cases d with
      | lst m xs =>
        obtain ⟨a, ws, rfl, hq, rr⟩ := r.sq
        exact ⟨a, ws, rfl, .inl ⟨hq, fun p np => fin _ _ _ (rs_tup np rr) q⟩⟩
      | tup xs =>
        obtain ⟨a, ws, rfl, hq, rr⟩ := r.tq
        exact ⟨a, ws, rfl, .inr ⟨hq, fin _ _ _ (rs_d (.tup hq rr)) q⟩⟩
      | _ => exact q.elim
/-- one list of ints, of bools -/
theorem VRs.one {K : Frag} {H : Hp} {vs : List V} {d : D} (h : VRs K G H vs [d]) : ∃ v, vs = [v] ∧ VR K G H v d := by
  cases h with
  | cons r rs => cases rs; exact ⟨_, rfl, r⟩
theorem VRs.two {K : Frag} {H : Hp} {vs : List V} {d d' : D} (h : VRs K G H vs [d, d']) : ∃ v v', vs = [v, v'] ∧ VR K G H v d ∧ VR K G H v' d' := by
  cases h with
  | cons r rs =>
    cases rs with
    | cons r' rs => cases rs; exact ⟨_, _, rfl, r, r'⟩
theorem DRs.bls {K : Frag} {H : Hp} : ∀ {bs : List Bool} {vs : List V}, DRs K G H vs (bs.map D.bl) → vs = bs.map V.bl
  | [], _, h => by cases h; rfl
  | n :: ns, _, h => by cases h with | cons a b => cases a; rw [DRs.bls b]; rfl
def zSumC : ZL := fun ds Q => ∃ (m : Nat) (ns : List Int), ds = [.lst m (ns.map D.int)] ∧ Q (.d (.int ns.sum))
theorem cz_sum (hc : X.calm = true) : CalZ X (.builtin "sum") zSumC := by
  refine ⟨_, cr_sum hc, fun G H vs ds Q R h q fin => ?_⟩
  obtain ⟨m, ns, rfl, q⟩ := q
  obtain ⟨v, rfl, r⟩ := h.one
  obtain ⟨a, ws, rfl, hq, rr⟩ := r.sq
  obtain rfl := rr.ints
  exact ⟨a, ns, rfl, hq, fin _ H _ (rs_d (.int _)) q⟩
def zMaxC : ZL := fun ds Q => (∃ (m : Nat) (ns : List Int), ds = [.lst m (ns.map D.int)] ∧ Sd (0 < ns.length) ∧ ∀ m, m ∈ ns → (∀ y, y ∈ ns → y ≤ m) → Q (.d (.int m))) ∨ ∃ (i j : Int), ds = [.int i, .int j] ∧ Q (.d (.int (if j > i then j else i)))
theorem cz_max (hc : X.calm = true) : CalZ X (.builtin "max") zMaxC := by
  refine ⟨_, (cr_max hc).or (call_max2 hc), fun G H vs ds Q R h q fin => ?_⟩
  rcases q with ⟨m, ns, rfl, hl, q⟩ | ⟨i, j, rfl, q⟩
  · obtain ⟨v, rfl, r⟩ := h.one
    obtain ⟨a, ws, rfl, hq, rr⟩ := r.sq
    obtain rfl := rr.ints
    exact .inl ⟨a, ns, rfl, hq, hl.h, fun m h1 h2 => fin _ H _ (rs_d (.int _)) (q m h1 h2)⟩
  · obtain ⟨v, w, rfl, r1, r2⟩ := h.two
    obtain rfl := r1.i; obtain rfl := r2.i
    exact .inr ⟨i, j, rfl, fin _ H _ (rs_d (.int _)) q⟩
def zMinC : ZL := fun ds Q => (∃ (m : Nat) (ns : List Int), ds = [.lst m (ns.map D.int)] ∧ Sd (0 < ns.length) ∧ ∀ m, m ∈ ns → (∀ y, y ∈ ns → m ≤ y) → Q (.d (.int m))) ∨ ∃ (i j : Int), ds = [.int i, .int j] ∧ Q (.d (.int (if j < i then j else i)))
theorem cz_min (hc : X.calm = true) : CalZ X (.builtin "min") zMinC := by
  refine ⟨_, (cr_min hc).or (call_min2 hc), fun G H vs ds Q R h q fin => ?_⟩
  rcases q with ⟨m, ns, rfl, hl, q⟩ | ⟨i, j, rfl, q⟩
  · obtain ⟨v, rfl, r⟩ := h.one
    obtain ⟨a, ws, rfl, hq, rr⟩ := r.sq
    obtain rfl := rr.ints
    exact .inl ⟨a, ns, rfl, hq, hl.h, fun m h1 h2 => fin _ H _ (rs_d (.int _)) (q m h1 h2)⟩
  · obtain ⟨v, w, rfl, r1, r2⟩ := h.two
    obtain rfl := r1.i; obtain rfl := r2.i
    exact .inr ⟨i, j, rfl, fin _ H _ (rs_d (.int _)) q⟩
def zAllC : ZL := fun ds Q => ∃ (m : Nat) (bs : List Bool), ds = [.lst m (bs.map D.bl)] ∧ Q (.d (.bl (bs.all id)))
theorem cz_all (hc : X.calm = true) : CalZ X (.builtin "all") zAllC := by
  refine ⟨_, cr_all hc, fun G H vs ds Q R h q fin => ?_⟩
  obtain ⟨m, ns, rfl, q⟩ := q
  obtain ⟨v, rfl, r⟩ := h.one
  obtain ⟨a, ws, rfl, hq, rr⟩ := r.sq
  obtain rfl := rr.bls
  exact ⟨a, ns, rfl, hq, fin _ H _ (rs_d (.bl _)) q⟩
/-- int(n), int(b) -/
def zIntC : ZL := fun ds Q => match ds with
  | [.int i] => Q (.d (.int i))
  | [.bl b] => Q (.d (.int (if b then 1 else 0)))
  | _ => False
theorem cz_int : CalZ X (.type "int") zIntC := by
  refine ⟨_, call_int1, fun G H vs ds Q R h q fin => ?_⟩
  cases h with
  | nil => exact q.elim
  | @cons v d vs ds r rs =>
    cases rs with
    | cons _ _ => cases d <;> exact q.elim
    | nil =>
      cases d with
      | int i => obtain rfl := r.i; exact .inl ⟨i, rfl, fin _ H _ (rs_d (.int _)) q⟩
      | bl b => obtain rfl := r.b; exact .inr ⟨b, rfl, fin _ H _ (rs_d (.int _)) q⟩
      | _ => exact q.elim
end

/-! ## lending: lists stand still while a callee looks at them -/
/-- what may be lent -/
def Lk : HO → Prop
  | .lst _ => True
  | .dK _ => True
  | .ins _ _ _ => True
  | _ => False
theorem Lk.mut {u : HO} (h : Lk u) : Mut (some u) := by cases u <;> first | exact trivial | exact h.elim
/-- what is not lent, nor a lent thing locked -/
def Nk : HO → Prop
  | .lst _ => False
  | .dK _ => False
  | .ins _ _ _ => False
  | .frz _ (.lst _) => False
  | .frz _ (.dK _) => False
  | .frz _ (.ins _ _ _) => False
  | _ => True
theorem Nk.no {u : HO} (h : Nk u) : ¬ Lk u := by cases u <;> first | exact fun z => z | exact fun _ => h
theorem Nk.nf {o : Obj} {u : HO} (h : Nk (.frz o u)) : ¬ Lk u := by cases u <;> first | exact fun z => z | exact fun _ => h
section
variable {K : Frag} {G G' : Addr → Prop} {H H1 : Hp}
theorem sqT_to (k : ∀ a u, H a = some u → Nk u → H1 a = some u) {a : Addr} {xs : List V} (h : SqT K H a xs) : SqT K H1 a xs := by
  rcases h with (h | ⟨o, h⟩) | h
  · exact .inl (.inl (k _ _ h trivial))
  · exact .inl (.inr ⟨o, k _ _ h trivial⟩)
  · exact .inr h
mutual
theorem DR.go (k : Kp H H1) (hg : ∀ a o u, H a = some (.frz o u) → (G' a ↔ G a)) : ∀ {d : D} {v : V}, DR K G H v d → DR K G' H1 v d
  | .non, _, h => by cases h; exact .non
  | .bl b, _, h => by cases h; exact .bl b
  | .int i, _, h => by cases h; exact .int i
  | .str s, _, h => by cases h; exact .str s
  | .ty n, _, h => by cases h; exact .ty n
  | .adr a, _, h => by cases h; exact .adr a
  | .tup ds, _, h => by cases h with | tup a b => exact .tup (sqT_kp k a) (DRs.go k hg b)
  | .lst m ds, _, h => by
    cases h with
    | lst0 a g b => exact .lst0 (k.frz _ _ _ a) (fun q => g ((hg _ _ _ a).mp q)) (DRs.go k hg b)
    | lst1 a g b => exact .lst1 (k.frz _ _ _ a) ((hg _ _ _ a).mpr g) (DRs.go k hg b)
    | lst2 a b => exact .lst2 a (DRs.go k hg b)
  | .obj C ns ds, _, h => by cases h with | obj c a g e b => exact .obj c (k.frz _ _ _ a) (g.trans (hg _ _ _ a).symm) e (DRs.go k hg b)
  | .dct m ks ds, _, h => by
    cases h with
    | dct0 a g e b => exact .dct0 (k.frz _ _ _ a) (fun q => g ((hg _ _ _ a).mp q)) e (DRs.go k hg b)
    | dct1 a g e b => exact .dct1 (k.frz _ _ _ a) ((hg _ _ _ a).mpr g) e (DRs.go k hg b)
  | .exc C ns ds, _, h => by cases h with | exc c a e f x i b => exact .exc c (k.frz _ _ _ a) e f (x.imp (fun q => q) fun ⟨p, h1, h2⟩ => ⟨p, h1, k.xd _ _ h2⟩) i (DRs.go k hg b)
theorem DRs.go (k : Kp H H1) (hg : ∀ a o u, H a = some (.frz o u) → (G' a ↔ G a)) : ∀ {ds : List D} {vs : List V}, DRs K G H vs ds → DRs K G' H1 vs ds
  | [], _, h => by cases h; exact .nil
  | d :: ds, _, h => by cases h with | cons a b => exact .cons (DR.go k hg a) (DRs.go k hg b)
end
mutual
/-- what holds no lent list stays when lists are given back -/
theorem DR.ret (k : ∀ a u, H a = some u → Nk u → H1 a = some u) (hg : ∀ a o u, Lk u → H a = some (.frz o u) → ¬ G' a → H1 a = some (.frz o u) ∧ ¬ G a) : ∀ {d : D} {v : V}, DR K G' H v d → d.nb = true → DR K G H1 v d
  | .non, _, h, _ => by cases h; exact .non
  | .bl b, _, h, _ => by cases h; exact .bl b
  | .int i, _, h, _ => by cases h; exact .int i
  | .str s, _, h, _ => by cases h; exact .str s
  | .ty n, _, h, _ => by cases h; exact .ty n
  | .adr a, _, h, _ => by cases h; exact .adr a
  | .tup ds, _, h, n => by cases h with | tup a b => exact .tup (sqT_to k a) (DRs.ret k hg b (by simpa [D.nb] using n))
  | .lst m ds, _, h, n => by
    have n2 : D.nbs ds = true := by simp [D.nb] at n; exact n.2
    cases h with
    | lst0 a g b => exact .lst0 (hg _ _ (.lst _) trivial a g).1 (hg _ _ (.lst _) trivial a g).2 (DRs.ret k hg b n2)
    | lst1 a g b => simp [D.nb] at n
    | lst2 a b => exact .lst2 a (DRs.ret k hg b n2)
  | .obj C ns ds, _, h, n => by
    simp only [D.nb, Bool.and_eq_true] at n
    have lt : C < 100 := by simpa using n.1
    cases h with
    | obj c a g e b =>
      have ng := hg _ _ (.ins _ _ _) trivial a fun q => absurd (g.mpr q) (by omega)
      exact .obj c ng.1 ⟨fun h => absurd h (by omega), fun q => absurd q ng.2⟩ e (DRs.ret k hg b n.2)
  | .dct m ks ds, _, h, n => by
    have n2 : D.nbs ds = true := by simp [D.nb] at n; exact n.2
    cases h with
    | dct0 a g e b => exact .dct0 (hg _ _ (.dK _) trivial a g).1 (hg _ _ (.dK _) trivial a g).2 e (DRs.ret k hg b n2)
    | dct1 a g e b => simp [D.nb] at n
  | .exc C ns ds, _, h, n => by
    cases h with
    | exc c a e f x i b => exact .exc c (k _ _ a trivial) e f (x.imp (fun q => q) fun ⟨p, h1, h2⟩ => ⟨p, h1, k _ _ h2 trivial⟩) i (DRs.ret k hg b (by simpa [D.nb] using n))
theorem DRs.ret (k : ∀ a u, H a = some u → Nk u → H1 a = some u) (hg : ∀ a o u, Lk u → H a = some (.frz o u) → ¬ G' a → H1 a = some (.frz o u) ∧ ¬ G a) : ∀ {ds : List D} {vs : List V}, DRs K G' H vs ds → D.nbs ds = true → DRs K G H1 vs ds
  | [], _, h, _ => by cases h; exact .nil
  | d :: ds, _, h, n => by
    simp [D.nbs] at n
    cases h with | cons a b => exact .cons (DR.ret k hg a n.1) (DRs.ret k hg b n.2)
end
mutual
theorem OR.ret (k : ∀ a u, H a = some u → Nk u → H1 a = some u) (hg : ∀ a o u, Lk u → H a = some (.frz o u) → ¬ G' a → H1 a = some (.frz o u) ∧ ¬ G a) : ∀ {o : O} {v : V} {as : List Addr}, OR K G' H v o as → (∀ a ∈ as, H1 a = H a) → o.nb = true → OR K G H1 v o as
  | .pure d, _, _, h, _, n => by cases h with | pure a => exact .pure (a.ret k hg (by simpa [O.nb] using n))
  | .lst ds, _, _, h, q, n => by cases h with | lst a b => exact .lst (by rw [q _ (by simp)]; exact a) (b.ret k hg (by simpa [O.nb] using n))
  | .dct ks ds, _, _, h, q, n => by cases h with | dct a e b => exact .dct (by rw [q _ (by simp)]; exact a) e (b.ret k hg (by simpa [O.nb] using n))
  | .ins a0 C ns os, _, _, h, q, n => by
    cases h with
    | ins c a e b => exact .ins c (by rw [q _ (by simp)]; exact a) e (ORs.ret k hg b (fun x hx => q x (List.mem_cons_of_mem _ hx)) (by simpa [O.nb] using n))
theorem ORs.ret (k : ∀ a u, H a = some u → Nk u → H1 a = some u) (hg : ∀ a o u, Lk u → H a = some (.frz o u) → ¬ G' a → H1 a = some (.frz o u) ∧ ¬ G a) : ∀ {os : List O} {vs : List V} {as : List Addr}, ORs K G' H vs os as → (∀ a ∈ as, H1 a = H a) → O.nbs os = true → ORs K G H1 vs os as
  | [], _, _, h, _, _ => by cases h; exact .nil
  | o :: os, _, _, h, q, n => by
    simp [O.nbs] at n
    cases h with
    | cons a b => exact .cons (OR.ret k hg a (fun x hx => q x (List.mem_append_left _ hx)) n.1) (ORs.ret k hg b (fun x hx => q x (List.mem_append_right _ hx)) n.2)
end
end
abbrev LL := List (Addr × HO)
/-- the lists of L locked; given back -/
def lkd (L : LL) (od : Addr → Obj) (H : Hp) : Hp := fun b => match L.lookup b with
  | some u => some (.frz (od b) u)
  | none => H b
def unl (L : LL) (H : Hp) : Hp := fun b => match L.lookup b with
  | some u => some u
  | none => H b
theorem lookup_mem {L : LL} {b : Addr} {xs : HO} (h : L.lookup b = some xs) : (b, xs) ∈ L := by
  induction L with
  | nil => cases h
  | cons p L ih =>
    obtain ⟨a, ys⟩ := p
    rw [List.lookup_cons] at h
    cases e : b == a with
    | true =>
      rw [e] at h
      have e' : b = a := by simpa using e
      cases h; subst e'; exact List.mem_cons_self
    | false => rw [e] at h; exact List.mem_cons_of_mem _ (ih h)
theorem lookup_of {L : LL} {b : Addr} (h : b ∈ L.map (·.1)) : ∃ xs, L.lookup b = some xs := by
  induction L with
  | nil => simp at h
  | cons p L ih =>
    obtain ⟨a, ys⟩ := p
    rw [List.lookup_cons]
    cases e : b == a with
    | true => exact ⟨_, rfl⟩
    | false =>
      simp at h
      rcases h with h | h
      · subst h; simp at e
      · exact ih (by simpa using h)
section
variable {X : Cx} {pins : List (Addr × Obj)} {σ : St} {H : Hp} {s : Shared}
theorem lock_all : ∀ (L : LL), (∀ p ∈ L, H p.1 = some p.2 ∧ Lk p.2) → Inv X pins σ H s → ∃ od, Inv X pins σ (lkd L od H) s
  | [], _, I => ⟨fun _ => default, by
    have e : lkd [] (fun _ => default) H = H := by funext b; rfl
    rw [e]; exact I⟩
  | (a, xs) :: L, h, I => by
    obtain ⟨od, I1⟩ := lock_all L (fun p hp => h p (List.mem_cons_of_mem _ hp)) I
    have ha := h (a, xs) List.mem_cons_self
    cases e : L.lookup a with
    | some ys =>
      refine ⟨od, ?_⟩
      have hy := (h _ (List.mem_cons_of_mem _ (lookup_mem e))).1
      have ha := ha.1
      have q : lkd ((a, xs) :: L) od H = lkd L od H := by
        funext b
        unfold lkd
        rw [List.lookup_cons]
        cases eb : b == a with
        | false => rfl
        | true =>
          have : b = a := by simpa using eb
          subst this
          rw [e]
          have : xs = ys := by
            have := ha.symm.trans hy
            cases this; rfl
          rw [this]
      rw [q]; exact I1
    | none =>
      have h1 : lkd L od H a = some xs := by unfold lkd; rw [e]; exact ha.1
      obtain ⟨o, I2⟩ := I1.lock h1 ha.2.mut
      refine ⟨fun b => if b = a then o else od b, ?_⟩
      have q : lkd ((a, xs) :: L) (fun b => if b = a then o else od b) H = upd (lkd L od H) a (.frz o xs) := by
        funext b
        unfold lkd upd
        rw [List.lookup_cons]
        cases eb : b == a with
        | true =>
          have : b = a := by simpa using eb
          subst this
          simp
        | false =>
          have ne : b ≠ a := by simpa using eb
          simp [ne]
      rw [q]; exact I2
theorem unlock_all (n : ∀ (L : LL) (a : Addr), a ∈ L.map (·.1) → True) : ∀ (L : LL) {H' : Hp} {s' : Shared}, (∀ p ∈ L, ∃ o, H' p.1 = some (.frz o p.2)) → (∀ p ∈ L, ∀ o' u', X.H_0 p.1 ≠ some (.frz o' u')) → Inv X pins σ H' s' → Inv X pins σ (unl L H') s'
  | [], H', s', _, _, I => by
    have e : unl [] H' = H' := by funext b; rfl
    rw [e]; exact I
  | (a, xs) :: L, H', s', h, hn, I => by
    have I1 := unlock_all n L (fun p hp => h p (List.mem_cons_of_mem _ hp)) (fun p hp => hn p (List.mem_cons_of_mem _ hp)) I
    obtain ⟨o, ha⟩ := h (a, xs) List.mem_cons_self
    cases e : L.lookup a with
    | some ys =>
      obtain ⟨o', hy⟩ := h _ (List.mem_cons_of_mem _ (lookup_mem e))
      have q : unl ((a, xs) :: L) H' = unl L H' := by
        funext b
        unfold unl
        rw [List.lookup_cons]
        cases eb : b == a with
        | false => rfl
        | true =>
          have : b = a := by simpa using eb
          subst this
          rw [e]
          have : xs = ys := by
            have := ha.symm.trans hy
            cases this; rfl
          rw [this]
      rw [q]; exact I1
    | none =>
      have h1 : unl L H' a = some (.frz o xs) := by unfold unl; rw [e]; exact ha
      have I2 := I1.unlock h1 (hn (a, xs) List.mem_cons_self)
      have q : unl ((a, xs) :: L) H' = upd (unl L H') a xs := by
        funext b
        unfold unl upd
        rw [List.lookup_cons]
        cases eb : b == a with
        | true =>
          have : b = a := by simpa using eb
          subst this
          simp
        | false =>
          have ne : b ≠ a := by simpa using eb
          simp [ne]
      rw [q]; exact I2
end
/-! ## a def of the text -/
abbrev FS := List D → (RV → Prop) → EZ → Prop
def toSp (K : Frag) (f : FS) : Sp := fun vs H Q E => ∃ (G : Addr → Prop) (ds : List D) (Qz : RV → Prop) (Ez : EZ), (∀ a, G a → ∃ o, H a = some o) ∧ DRs K G H vs ds ∧ f ds Qz Ez ∧
  (∀ v H' r, RS K G H H' v r → Qz r → Q v H') ∧ ∀ cls d H' c ns es, Same H H' → XR K G H' cls d c ns es → Ez c ns es → E cls d H'
/-! what is lent of an owned thing -/
mutual
def O.lend : O → Option D
  | .pure d => some d
  | .lst ds => some (.lst 1 ds)
  | .dct ks ds => some (.dct 1 ks ds)
  | .ins _ c ns os => (O.lends os).map fun ds => .obj (c + 100) ns ds
def O.lends : List O → Option (List D)
  | [] => some []
  | o :: os => match o.lend, O.lends os with
    | some d, some ds => some (d :: ds)
    | _, _ => none
end
def cvl (ss : SS) : RV → Option D
  | .d x => some x
  | .loc i => match ss[i]? with
    | some (some o) => o.lend
    | _ => none
  | .new _ => none
def cvsL (ss : SS) : List RV → Option (List D)
  | [] => some []
  | r :: rs => match cvl ss r, cvsL ss rs with
    | some d, some ds => some (d :: ds)
    | _, _ => none
section
variable {K : Frag} {G : Addr → Prop} {H : Hp}
/-- L locked, G' knows it -/
def LentAt (G G' : Addr → Prop) (H H1 : Hp) (L : LL) : Prop := Kp H H1 ∧ (∀ a o u, H a = some (.frz o u) → (G' a ↔ G a)) ∧ ∀ p ∈ L, (∃ o, H1 p.1 = some (.frz o p.2)) ∧ G' p.1
theorem LentAt.sub {G G' : Addr → Prop} {H H1 : Hp} {L M : LL} (h : LentAt G G' H H1 M) (s : ∀ p ∈ L, p ∈ M) : LentAt G G' H H1 L := ⟨h.1, h.2.1, fun p hp => h.2.2 p (s p hp)⟩
mutual
theorem OR.lend : ∀ {o : O} {v : V} {as : List Addr} {d : D}, OR K G H v o as → o.lend = some d → ∃ L : LL, (∀ p ∈ L, (H p.1 = some p.2 ∧ Lk p.2) ∧ p.1 ∈ as) ∧ ∀ (G' : Addr → Prop) (H1 : Hp), LentAt G G' H H1 L → DR K G' H1 v d
  | .pure d, v, as, _, r, e => by
    simp only [O.lend, Option.some.injEq] at e; subst e
    cases r with
    | pure r => exact ⟨[], fun p hp => (by simp at hp), fun G' H1 h => r.go h.1 h.2.1⟩
  | .lst ds, v, as, _, r, e => by
    simp only [O.lend, Option.some.injEq] at e; subst e
    cases r with
    | @lst a xs _ ha r =>
      refine ⟨[(a, .lst xs)], fun p hp => ?_, fun G' H1 h => ?_⟩
      · rw [List.mem_singleton.mp hp]; exact ⟨⟨ha, trivial⟩, by simp⟩
      · obtain ⟨⟨o, q1⟩, q2⟩ := h.2.2 (a, .lst xs) (by simp)
        exact .lst1 q1 q2 (r.go h.1 h.2.1)
  | .dct ks ds, v, as, _, r, e => by
    simp only [O.lend, Option.some.injEq] at e; subst e
    cases r with
    | @dct a kvs _ _ ha hk r =>
      refine ⟨[(a, .dK kvs)], fun p hp => ?_, fun G' H1 h => ?_⟩
      · rw [List.mem_singleton.mp hp]; exact ⟨⟨ha, trivial⟩, by simp⟩
      · obtain ⟨⟨o, q1⟩, q2⟩ := h.2.2 (a, .dK kvs) (by simp)
        exact .dct1 q1 q2 hk (r.go h.1 h.2.1)
  | .ins a c ns os, v, as, _, r, e => by
    simp only [O.lend, Option.map_eq_some_iff] at e
    obtain ⟨ds, e1, rfl⟩ := e
    cases r with
    | @ins _ C dx _ fvs _ _ as hc ha hf r =>
      obtain ⟨L, h1, h2⟩ := ORs.lend r e1
      refine ⟨(a, .ins C dx fvs) :: L, fun p hp => ?_, fun G' H1 h => ?_⟩
      · rcases List.mem_cons.mp hp with rfl | hp
        · exact ⟨⟨ha, trivial⟩, by simp⟩
        · exact ⟨(h1 p hp).1, List.mem_cons_of_mem _ (h1 p hp).2⟩
      · obtain ⟨⟨o, q1⟩, q2⟩ := h.2.2 (a, .ins C dx fvs) (by simp)
        refine .obj (by unfold ClsAt; rw [clsN_100]; exact hc) q1 ⟨fun _ => q2, fun _ => Nat.le_add_left _ _⟩ hf (h2 G' H1 (h.sub fun p hp => List.mem_cons_of_mem _ hp))
theorem ORs.lend : ∀ {os : List O} {vs : List V} {as : List Addr} {ds : List D}, ORs K G H vs os as → O.lends os = some ds → ∃ L : LL, (∀ p ∈ L, (H p.1 = some p.2 ∧ Lk p.2) ∧ p.1 ∈ as) ∧ ∀ (G' : Addr → Prop) (H1 : Hp), LentAt G G' H H1 L → DRs K G' H1 vs ds
  | [], vs, as, _, r, e => by
    simp only [O.lends, Option.some.injEq] at e; subst e
    cases r
    exact ⟨[], fun p hp => (by simp at hp), fun _ _ _ => .nil⟩
  | o :: os, vs, as, _, r, e => by
    cases r with
    | @cons v _ vs _ as bs r rs =>
      cases e1 : o.lend with
      | none => simp [O.lends, e1] at e
      | some d =>
        cases e2 : O.lends os with
        | none => simp [O.lends, e1, e2] at e
        | some ds =>
          simp only [O.lends, e1, e2, Option.some.injEq] at e; subst e
          obtain ⟨L, h1, h2⟩ := OR.lend r e1
          obtain ⟨M, g1, g2⟩ := ORs.lend rs e2
          refine ⟨L ++ M, fun p hp => ?_, fun G' H1 h => .cons (h2 G' H1 (h.sub fun p hp => List.mem_append_left _ hp)) (g2 G' H1 (h.sub fun p hp => List.mem_append_right _ hp))⟩
          rcases List.mem_append.mp hp with hp | hp
          · exact ⟨(h1 p hp).1, List.mem_append_left _ (h1 p hp).2⟩
          · exact ⟨(g1 p hp).1, List.mem_append_right _ (g1 p hp).2⟩
end
end
/-- the lists among the arguments that are owned -/
theorem lend_args {K : Frag} {G : Addr → Prop} {B : Hp} {σ : St} {H : Hp} {ss : SS} (S : Sm K G B [] σ H ss) : ∀ {rs : List RV} {vs : List V} {ds : List D}, AR K G σ H vs rs → cvsL ss rs = some ds →
    ∃ L : LL, (∀ p ∈ L, (H p.1 = some p.2 ∧ Lk p.2) ∧ B p.1 = none) ∧ (∀ (G' : Addr → Prop) (H1 : Hp), Kp H H1 → (∀ a o u, H a = some (.frz o u) → (G' a ↔ G a)) → (∀ p ∈ L, (∃ o, H1 p.1 = some (.frz o p.2)) ∧ G' p.1) → DRs K G' H1 vs ds)
  | [], [], ds, _, e => by simp [cvsL] at e; subst e; exact ⟨[], fun p hp => (by simp at hp), fun _ _ _ _ _ => .nil⟩
  | [], _ :: _, _, h, _ => h.elim
  | .new o :: rs, v :: vs, ds, h, e => h.elim
  | .d x :: rs, [], ds, h, e => h.elim
  | .loc x :: rs, [], ds, h, e => h.elim
  | .new x :: rs, [], ds, h, e => h.elim
  | .d x :: rs, v :: vs, ds, h, e => by
    cases e2 : cvsL ss rs with
    | none => simp [cvsL, e2, cvl] at e
    | some ys =>
      simp [cvsL, e2, cvl] at e; subst e
      obtain ⟨L, h1, h2⟩ := lend_args S h.2 e2
      exact ⟨L, h1, fun G' H1 k hg hl => .cons (h.1.go k hg) (h2 G' H1 k hg hl)⟩
  | .loc i :: rs, v :: vs, ds, h, e => by
    cases e1 : cvl ss (.loc i) with
    | none => simp [cvsL, e1] at e
    | some y =>
      cases e2 : cvsL ss rs with
      | none => simp [cvsL, e1, e2] at e
      | some ys =>
        simp [cvsL, e1, e2] at e; subst e
        obtain ⟨L, h1, h2⟩ := lend_args S h.2 e2
        unfold cvl at e1
        cases hi : ss[i]? with
        | none => simp only [hi] at e1; cases e1
        | some oo =>
          cases oo with
          | none => simp only [hi] at e1; cases e1
          | some o =>
            simp only [hi] at e1
            obtain ⟨A, W⟩ := S.own
            obtain ⟨w, hw, ro⟩ := W.at_ i _ hi
            rw [h.1] at hw; cases hw
            obtain ⟨M, g1, g2⟩ := ro.lend e1
            refine ⟨M ++ L, fun p hp => ?_, fun G' H1 k hg hl => .cons (g2 G' H1 ⟨k, hg, fun p hp => hl p (List.mem_append_left _ hp)⟩) (h2 G' H1 k hg fun p hp => hl p (List.mem_append_right _ hp))⟩
            rcases List.mem_append.mp hp with hp | hp
            · exact ⟨(g1 p hp).1, (W.fr i _ (g1 p hp).2).1⟩
            · exact h1 p hp
def RV.nb : RV → Bool
  | .d x => x.nb
  | .new o => o.nb
  | .loc _ => true
def hasLoc : List RV → Bool
  | [] => false
  | .loc _ :: _ => true
  | _ :: rs => hasLoc rs
theorem noLoc {K : Frag} {G : Addr → Prop} {σ : St} {H : Hp} {ss : SS} : ∀ {rs : List RV} {vs : List V} {ds : List D}, AR K G σ H vs rs → cvsL ss rs = some ds → hasLoc rs = false → DRs K G H vs ds
  | [], [], ds, _, e, _ => by simp [cvsL] at e; subst e; exact .nil
  | [], _ :: _, _, h, _, _ => h.elim
  | .new o :: rs, v :: vs, ds, h, e, _ => h.elim
  | .d x :: rs, [], ds, h, e, _ => h.elim
  | .loc x :: rs, [], ds, h, e, _ => h.elim
  | .new x :: rs, [], ds, h, e, _ => h.elim
  | .loc x :: rs, v :: vs, ds, h, e, n => by simp [hasLoc] at n
  | .d x :: rs, v :: vs, ds, h, e, n => by
    cases e2 : cvsL ss rs with
    | none => simp [cvsL, e2, cvl] at e
    | some ys =>
      simp [cvsL, e2, cvl] at e; subst e
      exact .cons h.1 (noLoc h.2 e2 (by simpa [hasLoc] using n))
/-- f(..): the lists that are owned are lent -/
def zCall (f : FS) (Wz : WZ) (ts : ZTA) : ZT := fun ss Q => ts ss fun rs s => match cvsL s rs with
  | some ds => match hasLoc rs with
    | false => f ds (fun r => Q r s) fun cls ns es => Wz cls ns es s
    | true => f ds (fun r => Sd (r.nb = true) ∧ Q r s) fun cls ns es => Sd (D.nbs es = true) ∧ Wz cls ns es s
  | none => False
def tCallL (sp : Sp) (W : WX) (t : TA) : TE := fun σ H Q => t σ H fun vs H1 => ∃ L : LL, (∀ p ∈ L, H1 p.1 = some p.2 ∧ Lk p.2) ∧ ∀ od, sp vs (lkd L od H1) (fun v H' => Same (lkd L od H1) H' ∧ Q v (unl L H')) fun cls d H' => Same (lkd L od H1) H' ∧ W cls d σ (unl L H')
section
variable {X : Cx} {CX : CXT} {k : Nat} {f C : Addr} {fd : FuncData} {ps : List Str} {sp : Sp} {x m : Str} {p pos apos : Pos} {e o : Expr} {es : List Expr} {ta : TE} {t : TA} {W : WX}
theorem lkd_frz {L : LL} {od : Addr → Obj} {H H' : Hp} (sm : Same (lkd L od H) H') {p : Addr × HO} (hp : p ∈ L) (h : ∀ p ∈ L, H p.1 = some p.2 ∧ Lk p.2) : ∃ o, H' p.1 = some (.frz o p.2) := by
  obtain ⟨xs, e⟩ := lookup_of (L := L) (b := p.1) (List.mem_map_of_mem hp)
  have e1 := (h _ (lookup_mem e)).1
  have e2 := (h p hp).1
  have e3 : xs = p.2 := by have := e1.symm.trans e2; cases this; rfl
  subst e3
  exact ⟨od p.1, sm _ _ (by unfold lkd; rw [e])⟩
/-- the callee runs while the lists of L are locked -/
theorem run_lent {pins : List (Addr × Obj)} {σ : St} {H : Hp} {s : Shared} {Q : VK} {us : List Value} {vs : List V} (F : FnOk X.prog X.w X.K X.mg X.base (L2.CX X.prog X.w) k f fd ps sp) (hr : Room k X.A) (hb : Binds X.K fd ps []) (tk : Takes X W)
    (I : Inv X pins σ H s) (r : Vals vs us) (h : ∃ L : LL, (∀ p ∈ L, H p.1 = some p.2 ∧ Lk p.2) ∧ ∀ od, sp vs (lkd L od H) (fun v H' => Same (lkd L od H) H' ∧ Q v (unl L H')) fun cls d H' => Same (lkd L od H) H' ∧ W cls d σ (unl L H')) :
    wpAny (model X.prog X.w) X.A (call (.ref f) us) (EP X pins σ Q) X.xe s := by
  obtain ⟨L, hL, h⟩ := h
  obtain ⟨od, I2⟩ := lock_all L hL I
  have nf : ∀ p ∈ L, ∀ o' u', X.H_0 p.1 ≠ some (.frz o' u') := fun p hp => I.nofrz (hL p hp).1 (hL p hp).2.mut
  refine thn (run_fnS (E := fun _ => fun cls d H' => Same (lkd L od H) H' ∧ W cls d σ (unl L H')) (σ := σ) F hr hb (fun pins2 H2 s2 e s' J c => ?_) I2 r (h od)) fun u s' ⟨v, H', I', rv, sm, q⟩ => ?_
  · obtain ⟨a, B, sI, pins', σ', H', cls, d, e1, I3, nb, up, sky, na, os, ag, w⟩ := XE.of_call (W := fun cls d σ' H' => σ' = σ ∧ Same (lkd L od H) H' ∧ W cls d σ (unl L H')) J (fun cls d H' hh => ⟨rfl, hh.1, hh.2⟩) c
    obtain ⟨rfl, sm, w⟩ := w
    refine tk _ _ ⟨a, B, sI, pins', σ', unl L H', cls, d, e1, unlock_all (fun _ _ _ => trivial) L (fun p hp => lkd_frz sm hp hL) nf I3, nb, up, sky, ?_, os, ag, w⟩
    unfold unl
    cases e2 : L.lookup a with
    | none => exact na
    | some xs =>
      obtain ⟨o, q⟩ := lkd_frz sm (lookup_mem e2) hL
      rw [na] at q; cases q
  · exact ⟨v, _, unlock_all (fun _ _ _ => trivial) L (fun p hp => lkd_frz sm hp hL) nf I', rv, q⟩
theorem pe_callL (F : FnOk X.prog X.w X.K X.mg X.base (L2.CX X.prog X.w) k f fd ps sp) (hr : Room k X.A) (hg : Gl X x) (hm : X.mg x = some (.ref f)) (hk : PySem.W.keepIn X.K (.ref f) = true) (hb : Binds X.K fd ps []) (tk : Takes X W)
    (ha : PA X (e :: es) t) (hdb : (x == ("__debug__" : Str)) = false := by decide) (he : starEach (e :: es) X.env = (false, eval e X.env) :: starEach es X.env := by rfl) (hpl : (backTo pos (starEach es X.env)).any (·.1) = false := by rfl) :
    PE X (.Call (.Name x p) (e :: es) [] pos) (tCallL sp W t) := by
  refine ⟨fun pins s σ H Q I h => ?_⟩
  refine wpAny_Call_Name_kw (ld_glob I hg hm ?_ hdb)
  refine PySem.W.callWith_K (h₀ := X.base) I.ok.mod.kin hk (thn (ha.run pos pins s σ H _ I h) fun us s1 ⟨vs, H1, I1, r, q⟩ => ⟨I1.kIn, ?_⟩) he hpl
  exact run_lent F hr hb tk I1 r q
theorem pe_callL0 (F : FnOk X.prog X.w X.K X.mg X.base (L2.CX X.prog X.w) k f fd ps sp) (hr : Room k X.A) (hg : Gl X x) (hm : X.mg x = some (.ref f)) (hk : PySem.W.keepIn X.K (.ref f) = true) (hb : Binds X.K fd ps []) (tk : Takes X W)
    (hdb : (x == ("__debug__" : Str)) = false := by decide) : PE X (.Call (.Name x p) [] [] pos) (tCallL sp W tNil) := by
  refine ⟨fun pins s σ H Q I h => ?_⟩
  refine wpAny_Call_Name_kw (ld_glob I hg hm ?_ hdb)
  exact PySem.W.callWith_K0 I.kIn hk (run_lent (us := []) F hr hb tk I .nil h)
end
section
variable {X : Cx} {G : Addr → Prop} {B : Hp} {Wz : WZ} {k j : Nat} {e a b c : Expr} {es : List Expr} {ts : ZTA} {pos : Pos}
def zCallQ (fs : FS) (Wz : WZ) (rs : List RV) (s : SS) (Q : RV → SS → Prop) : Prop := match cvsL s rs with
  | some ds => match hasLoc rs with
    | false => fs ds (fun r => Q r s) fun cls ns es => Wz cls ns es s
    | true => fs ds (fun r => Sd (r.nb = true) ∧ Q r s) fun cls ns es => Sd (D.nbs es = true) ∧ Wz cls ns es s
  | none => False
/-- what a promise kept in the locked state says in the state itself -/
theorem call_at {fs : FS} {W : WX} (hW : ∀ σ H ss cls d c ns ds, Sm X.K G B [] σ H ss → XR X.K G H cls d c ns ds → Wz c ns ds ss → W cls d σ H) {σ : St} {H1 : Hp} {s1 : SS} {vs : List V} {rs : List RV} {Q : RV → SS → Prop} {R : VK}
    (S1 : Sm X.K G B [] σ H1 s1) (ar : AR X.K G σ H1 vs rs) (q : zCallQ fs Wz rs s1 Q) (fin : ∀ v H' r, Kp H1 H' → RR X.K G B σ H' s1 v r → Q r s1 → R v H') :
    ∃ L : LL, (∀ p ∈ L, H1 p.1 = some p.2 ∧ Lk p.2) ∧ ∀ od, toSp X.K fs vs (lkd L od H1) (fun v H' => Same (lkd L od H1) H' ∧ R v (unl L H')) fun cls d H' => Same (lkd L od H1) H' ∧ W cls d σ (unl L H') := by
  cases ec : cvsL s1 rs with
  | none => simp only [zCallQ, ec] at q
  | some ds =>
    simp only [zCallQ, ec] at q
    cases eh : hasLoc rs with
    | false =>
      simp only [eh] at q
      have rr := noLoc ar ec eh
      refine ⟨[], fun p hp => (by simp at hp), fun od => ?_⟩
      have e1 : lkd [] od H1 = H1 := by funext b; rfl
      have e2 : ∀ H', unl [] H' = H' := fun H' => by funext b; rfl
      rw [e1]
      refine ⟨G, ds, _, _, fun a ga => ?_, rr, q, fun v H' r rs' qq => ⟨rs'.same, ?_⟩, fun cls d H' c ns es sm xr w => ⟨sm, ?_⟩⟩
      · obtain ⟨o, h⟩ := S1.gb a ga; exact ⟨o, S1.keep _ _ h⟩
      · rw [e2]; exact fin v H' r (Kp.of rs'.same) (rs'.rr S1) qq
      · rw [e2]; exact hW σ H' s1 cls d c ns es (S1.same sm) xr w
    | true =>
      simp only [eh] at q
      obtain ⟨L, hL, hD⟩ := lend_args S1 ar ec
      have hL1 : ∀ p ∈ L, H1 p.1 = some p.2 ∧ Lk p.2 := fun p hp => (hL p hp).1
      refine ⟨L, hL1, fun od => ?_⟩
      have kp0 : ∀ a u, H1 a = some u → ¬ Lk u → lkd L od H1 a = some u := fun a u h n => by
        unfold lkd
        cases e : L.lookup a with
        | none => exact h
        | some xs =>
          have q := hL1 _ (lookup_mem e)
          rw [h] at q; obtain ⟨q, l⟩ := q; cases q; exact absurd l n
      have kp : Kp H1 (lkd L od H1) := ⟨fun a o u h => kp0 a _ h fun z => z, fun a xs h => kp0 a _ h fun z => z, fun a xs h => kp0 a _ h fun z => z⟩
      let G' : Addr → Prop := fun a => G a ∨ a ∈ L.map (·.1)
      have hg : ∀ a o u, H1 a = some (.frz o u) → (G' a ↔ G a) := fun a o u h => by
        constructor
        · rintro (g | g)
          · exact g
          · obtain ⟨xs, e⟩ := lookup_of g
            obtain ⟨q, l⟩ := hL1 _ (lookup_mem e)
            rw [h] at q; cases q; exact l.elim
        · exact .inl
      have frz0 : ∀ p ∈ L, ∃ o, lkd L od H1 p.1 = some (.frz o p.2) := fun p hp => lkd_frz (Same.refl _) hp hL1
      -- behind the call, the lists given back
      have back : ∀ {H' : Hp}, Same (lkd L od H1) H' → Same H1 (unl L H') := fun {H'} sm b o h => by
        unfold unl
        cases e : L.lookup b with
        | none => exact sm b o (by unfold lkd; rw [e]; exact h)
        | some xs => have q := (hL1 _ (lookup_mem e)).1; rw [h] at q; cases q; rfl
      have kk : ∀ {H' : Hp}, Same (lkd L od H1) H' → ∀ a u, H' a = some u → Nk u → unl L H' a = some u := fun {H'} sm a u h n => by
        unfold unl
        cases e : L.lookup a with
        | none => exact h
        | some xs =>
          obtain ⟨o, q⟩ := lkd_frz sm (lookup_mem e) hL1
          rw [h] at q; cases q; exact absurd (hL1 _ (lookup_mem e)).2 n.nf
      have gg : ∀ {H' : Hp}, Same (lkd L od H1) H' → ∀ a o u, Lk u → H' a = some (.frz o u) → ¬ G' a → unl L H' a = some (.frz o u) ∧ ¬ G a := fun {H'} sm a o xs l h n => by
        refine ⟨?_, fun g => n (.inl g)⟩
        unfold unl
        cases e : L.lookup a with
        | none => exact h
        | some ys => exact absurd (.inr (List.mem_map_of_mem (lookup_mem e))) n
      refine ⟨G', ds, _, _, fun a ga => ?_, hD G' _ kp hg fun p hp => ⟨frz0 p hp, .inr (List.mem_map_of_mem hp)⟩, q, fun v H' r rs' qq => ⟨rs'.same, ?_⟩, fun cls d H' c ns es sm xr w => ⟨sm, ?_⟩⟩
      · rcases ga with ga | ga
        · obtain ⟨o, h⟩ := S1.gb a ga
          have h2 := S1.keep _ _ h
          cases e : L.lookup a with
          | none => exact ⟨o, by unfold lkd; rw [e]; exact h2⟩
          | some xs => exact ⟨_, by unfold lkd; rw [e]⟩
        · obtain ⟨xs, e⟩ := lookup_of ga
          exact ⟨_, by unfold lkd; rw [e]⟩
      · have rs1 : RS X.K G H1 (unl L H') v r := by
          cases r with
          | loc i => exact rs'.elim
          | d x => exact ⟨back rs'.1, rs'.2.ret (kk rs'.1) (gg rs'.1) qq.1.h⟩
          | new o =>
            obtain ⟨as, sm, ro, nd, fr⟩ := rs'
            have off : ∀ a ∈ as, L.lookup a = none := fun a ha => by
              cases e : L.lookup a with
              | none => rfl
              | some xs => have := fr a ha; unfold lkd at this; rw [e] at this; cases this
            refine ⟨as, back sm, ro.ret (kk sm) (gg sm) (fun a ha => by unfold unl; rw [off a ha]) qq.1.h, nd, fun a ha => ?_⟩
            have := fr a ha
            unfold lkd at this; rw [off a ha] at this; exact this
        exact fin v _ r (Kp.of rs1.same) (rs1.rr S1) qq.2
      · refine hW σ _ s1 cls d c ns es (S1.same (back sm)) ?_ w.2
        obtain ⟨hc, fvs, h1, h2, h3⟩ := xr
        exact ⟨hc, fvs, h1.imp (fun q => q) fun ⟨p, q1, q2⟩ => ⟨p, q1, kk sm _ _ q2 trivial⟩, h2, h3.ret (kk sm) (gg sm) w.1.h⟩
theorem call_zr {fs : FS} {W : WX} {te : TA} (hz : ZrA X.K G B te ts)
    (hW : ∀ σ H ss cls d c ns ds, Sm X.K G B [] σ H ss → XR X.K G H cls d c ns ds → Wz c ns ds ss → W cls d σ H) : Zr X.K G B (tCallL (toSp X.K fs) W te) (zCall fs Wz ts) := by
  intro σ H ss Q R S hw fin
  refine hz σ H ss _ _ S hw fun vs H1 rs s1 k1 S1 ar q => ?_
  exact call_at hW S1 ar q fun v H' r k2 rr qq => fin v H' r s1 (k1.trans k2) rr qq
theorem z_call {f : Addr} {fd : FuncData} {ps : List Str} {fs : FS} {x : Str} {p : Pos} (C : Ctx X G B Wz k) (F : FnOk X.prog X.w X.K X.mg X.base (L2.CX X.prog X.w) j f fd ps (toSp X.K fs)) (hj : j ≤ k) (hm : X.mg x = some (.ref f)) (hk : PySem.W.keepIn X.K (.ref f) = true) (hb : Binds X.K fd ps [])
    (ha : ZA X G B (e :: es) ts) (hg : Gl X x := by rfl) (hdb : (x == ("__debug__" : Str)) = false := by decide) (he : starEach (e :: es) X.env = (false, eval e X.env) :: starEach es X.env := by rfl) (hpl : (backTo pos (starEach es X.env)).any (·.1) = false := by rfl) :
    ZE X G B (.Call (.Name x p) (e :: es) [] pos) (zCall fs Wz ts) := by
  obtain ⟨W, tk, hW⟩ := C.wish
  obtain ⟨te, pa, za⟩ := ha
  exact ⟨_, pe_callL F (C.room.mono hj) hg hm hk hb tk pa hdb he hpl, call_zr za hW⟩
theorem z_call0 {f : Addr} {fd : FuncData} {ps : List Str} {fs : FS} {x : Str} {p : Pos} (C : Ctx X G B Wz k) (F : FnOk X.prog X.w X.K X.mg X.base (L2.CX X.prog X.w) j f fd ps (toSp X.K fs)) (hj : j ≤ k) (hm : X.mg x = some (.ref f)) (hk : PySem.W.keepIn X.K (.ref f) = true) (hb : Binds X.K fd ps [])
    (hg : Gl X x := by rfl) (hdb : (x == ("__debug__" : Str)) = false := by decide) : ZE X G B (.Call (.Name x p) [] [] pos) (zCall fs Wz zaNil) := by
  obtain ⟨W, tk, hW⟩ := C.wish
  obtain ⟨te, pa, za⟩ := (za_nil : ZA X G B [] zaNil)
  refine ⟨_, pe_callL0 F (C.room.mono hj) hg hm hk hb tk hdb, call_zr (te := tNil) (ts := zaNil) (fun σ H ss Q R S hw fin => fin [] H [] ss (Kp.refl H) S trivial hw) hW⟩
end

/-! ## statements -/
structure ZEnds where
  nx : SS → Prop
  rt : RV → SS → Prop
  bk : SS → Prop := fun _ => False
  ct : SS → Prop := fun _ => False
structure EOk (K : Frag) (G : Addr → Prop) (B : Hp) (H : Hp) (D : ZEnds) (D' : Ends) : Prop where
  nx : ∀ σ' H' ss', Kp H H' → Sm K G B [] σ' H' ss' → D.nx ss' → D'.nx σ' H'
  rt : ∀ σ' v H' r ss', Kp H H' → RR K G B σ' H' ss' v r → D.rt r ss' → D'.rt v H'
  bk : ∀ σ' H' ss', Kp H H' → Sm K G B [] σ' H' ss' → D.bk ss' → D'.bk σ' H'
  ct : ∀ σ' H' ss', Kp H H' → Sm K G B [] σ' H' ss' → D.ct ss' → D'.ct σ' H'
abbrev ZTS := ZEnds → SS → Prop
def ZSr (K : Frag) (G : Addr → Prop) (B : Hp) (ts : TS) (zs : ZTS) : Prop := ∀ (σ : St) (H : Hp) (ss : SS) (D : ZEnds) (D' : Ends), Sm K G B [] σ H ss → zs D ss → EOk K G B H D D' → ts D' σ H
def ZS (X : Cx) (G : Addr → Prop) (B : Hp) (st : Stmt) (zs : ZTS) : Prop := ∃ ts, PS X st ts ∧ ZSr X.K G B ts zs
def ZSs (X : Cx) (G : Addr → Prop) (B : Hp) (st : List Stmt) (zs : ZTS) : Prop := ∃ ts, PSs X st ts ∧ ZSr X.K G B ts zs
theorem EOk.mono {K : Frag} {G : Addr → Prop} {B H H1 : Hp} {D : ZEnds} {D' : Ends} (h : EOk K G B H D D') (k : Kp H H1) : EOk K G B H1 D D' :=
  ⟨fun σ H' ss k' => h.nx σ H' ss (k.trans k'), fun σ v H' r ss k' => h.rt σ v H' r ss (k.trans k'), fun σ H' ss k' => h.bk σ H' ss (k.trans k'), fun σ H' ss k' => h.ct σ H' ss (k.trans k')⟩
section
variable {X : Cx} {G : Addr → Prop} {B : Hp} {Wz : WZ} {k : Nat} {e a b c : Expr} {t : ZT} {tb : ZTB} {pos : Pos} {st : Stmt} {rest body els : List Stmt} {z u v : ZTS}
def zNext : ZTS := fun D ss => D.nx ss
def zSeq (z u : ZTS) : ZTS := fun D ss => match D with
  | ⟨nx, rt, bk, ct⟩ => z ⟨u ⟨nx, rt, bk, ct⟩, rt, bk, ct⟩ ss
theorem zs_nil : ZSs X G B [] zNext := ⟨_, pss_nil, fun σ H ss D D' S hw ok => ok.nx σ H ss (Kp.refl H) S hw⟩
theorem zs_cons (h1 : ZS X G B st z) (h2 : ZSs X G B rest u) : ZSs X G B (st :: rest) (zSeq z u) := by
  obtain ⟨te, p, r⟩ := h1
  obtain ⟨te2, p2, r2⟩ := h2
  refine ⟨_, pss_cons p p2, fun σ H ss D D' S hw ok => r σ H ss _ _ S hw ⟨fun σ' H' ss' k S' q => ?_, ok.rt, ok.bk, ok.ct⟩⟩
  exact r2 σ' H' ss' D D' S' q (ok.mono k)
theorem zs_one (h1 : ZS X G B st z) : ZSs X G B [st] z := by obtain ⟨te, p, r⟩ := h1; exact ⟨_, pss_one p, r⟩
theorem s_pass : ZS X G B (.Pass pos) zNext := ⟨_, ps_pass, fun σ H ss D D' S hw ok => ok.nx σ H ss (Kp.refl H) S hw⟩
theorem s_break : ZS X G B (.Break pos) (fun D ss => D.bk ss) := ⟨_, ps_break, fun σ H ss D D' S hw ok => ok.bk σ H ss (Kp.refl H) S hw⟩
theorem s_cont : ZS X G B (.Continue pos) (fun D ss => D.ct ss) := ⟨_, ps_continue, fun σ H ss D D' S hw ok => ok.ct σ H ss (Kp.refl H) S hw⟩
def zDrop (t : ZT) : ZTS := fun D ss => t ss fun _ s => D.nx s
theorem s_expr (h : ZE X G B e t) (hs : swapsWith e none pos.line X.env = pure false := by rfl) : ZS X G B (.Expr e pos) (zDrop t) := by
  obtain ⟨te, p, r⟩ := h
  exact ⟨_, ps_expr p hs, fun σ H ss D D' S hw ok => r σ H ss _ _ S hw fun v H' r ss' k rr q => ok.nx σ H' ss' k rr.sem q⟩
theorem s_doc {x j pos pos'} : ZS X G B (.Expr (.Constant (.str x) j pos) pos') zNext := ⟨_, ps_doc, fun σ H ss D D' S hw ok => ok.nx σ H ss (Kp.refl H) S hw⟩
def zRet (t : ZT) : ZTS := fun D ss => t ss D.rt
theorem s_ret (h : ZE X G B e t) : ZS X G B (.Return (some e) pos) (zRet t) := by
  obtain ⟨te, p, r⟩ := h
  exact ⟨_, ps_ret p, fun σ H ss D D' S hw ok => r σ H ss _ _ S hw fun v H' r ss' k rr q => ok.rt σ v H' r ss' k rr q⟩
theorem s_retN : ZS X G B (.Return none pos) (fun D ss => D.rt (.d .non) ss) := ⟨_, ps_retN, fun σ H ss D D' S hw ok => ok.rt σ .non H _ ss (Kp.refl H) (.d' S .non) hw⟩
def zIfS (t : ZTB) (z u : ZTS) : ZTS := fun D ss => t ss fun b s => Br b (z D s) (u D s)
theorem s_if (h : ZB X G B c tb) (h1 : ZSs X G B body z) (h2 : ZSs X G B els u) : ZS X G B (.If c body els pos) (zIfS tb z u) := by
  obtain ⟨te, p, r⟩ := h
  obtain ⟨te1, p1, r1⟩ := h1
  obtain ⟨te2, p2, r2⟩ := h2
  refine ⟨_, ps_if p p1 p2, fun σ H ss D D' S hw ok => r σ H ss _ _ S hw fun b H' ss' k S' q => ?_⟩
  cases b with
  | true => rw [if_pos rfl]; exact r1 σ H' ss' D D' S' (q.t rfl) (ok.mono k)
  | false => rw [if_neg Bool.false_ne_true]; exact r2 σ H' ss' D D' S' (q.f rfl) (ok.mono k)
/-- code that is never come to -/
theorem s_never : ZS X G B st (fun _ _ => False) := ⟨_, ps_never, fun _ _ _ _ _ _ h _ => h.elim⟩
/-! ## targets -/
abbrev ZG1 := D → SS → (SS → Prop) → Prop
abbrev ZG2 := List D → SS → (SS → Prop) → Prop
def ZGr (K : Frag) (G : Addr → Prop) (B : Hp) (tg : TG) (g : ZG1) : Prop := ∀ (σ : St) (H : Hp) (ss : SS) (v : V) (d : D) (Q : SS → Prop) (R : St → Hp → Prop), Sm K G B [] σ H ss → DR K G H v d → g d ss Q →
  (∀ σ' H' ss', Kp H H' → Sm K G B [] σ' H' ss' → Q ss' → R σ' H') → tg v σ H R
def ZG (X : Cx) (G : Addr → Prop) (B : Hp) (e : Expr) (g : ZG1) : Prop := ∃ tg, PG X e tg ∧ ZGr X.K G B tg g
def ZGs (X : Cx) (G : Addr → Prop) (B : Hp) (es : List Expr) (g : ZG2) : Prop := ∃ tg : TGs, PGs X es tg ∧ ∀ (σ : St) (H : Hp) (ss : SS) (vs : List V) (ds : List D) (Q : SS → Prop) (R : St → Hp → Prop), Sm X.K G B [] σ H ss → DRs X.K G H vs ds → g ds ss Q →
  (∀ σ' H' ss', Kp H H' → Sm X.K G B [] σ' H' ss' → Q ss' → R σ' H') → tg vs σ H R
theorem Sm.setD' {K : Frag} {σ : St} {H : Hp} {ss : SS} {i : Nat} {v : V} {d : D} (S : Sm K G B [] σ H ss) (r : DR K G H v d) : Sm K G B [] (σ.set i (some v)) H (ss.set i (some (.pure d))) := by
  by_cases h : i < ss.length
  · exact S.setD r h
  · have e1 : ss.set i (some (.pure d)) = ss := List.set_eq_of_length_le (by omega)
    have e2 : σ.set i (some v) = σ := List.set_eq_of_length_le (by have := S.len; omega)
    rw [e1, e2]; exact S
theorem Sm.set' {K : Frag} {σ : St} {H : Hp} {ss : SS} {i : Nat} {v : V} {o : O} {as : List Addr} (S : Sm K G B as σ H ss) (r : OR K G H v o as) (nd : as.Nodup) : Sm K G B [] (σ.set i (some v)) H (ss.set i (some o)) := by
  by_cases h : i < ss.length
  · exact S.set r nd h
  · have e1 : ss.set i (some o) = ss := List.set_eq_of_length_le (by omega)
    have e2 : σ.set i (some v) = σ := List.set_eq_of_length_le (by have := S.len; omega)
    rw [e1, e2]; exact S.weak
/-- the state, worked out -/
def fc : SS → (SS → Prop) → Prop
  | [], K => K []
  | x :: xs, K => fc xs fun ys => K (x :: ys)
theorem fc_iff : ∀ (s : SS) (K : SS → Prop), fc s K ↔ K s
  | [], _ => Iff.rfl
  | x :: xs, K => fc_iff xs fun ys => K (x :: ys)
def gN (i : Nat) : ZG1 := fun d ss Q => fc (ss.set i (some (.pure d))) Q
theorem g_name {i : Nat} {x : Str} (hN : X.N.Nodup) (hi : X.N[i]? = some x := by rfl) (hx : Loc X.env.scope x := by first | exact Or.inl rfl | exact Or.inr rfl) (hf : X.fn x = true ∨ X.env.scope.names.lookup x = some .local := by first | exact .inl rfl | exact .inr rfl) : ZG X G B (.Name x pos) (gN i) := by
  refine ⟨_, pg_name hN hi hx hf, fun σ H ss v d Q R S r hw fin => ?_⟩
  exact fin _ H _ (Kp.refl H) (S.setD' r) ((fc_iff _ _).mp hw)
def gsNil : ZG2 := fun ds ss Q => match ds with
  | [] => Q ss
  | _ => False
def gsCons (g : ZG1) (gs : ZG2) : ZG2 := fun ds ss Q => match ds with
  | d :: ds => g d ss fun s => gs ds s Q
  | _ => False
theorem gs_nil : ZGs X G B [] gsNil := by
  refine ⟨_, pgs_nil, fun σ H ss vs ds Q R S r hw fin => ?_⟩
  cases r with
  | nil => exact ⟨rfl, fin σ H ss (Kp.refl H) S hw⟩
  | cons _ _ => exact hw.elim
theorem gs_cons {es : List Expr} {g : ZG1} {gs : ZG2} (h1 : ZG X G B e g) (h2 : ZGs X G B es gs) (hs : (assignEach (e :: es) X.env).map (·.2) = assign e X.env :: (assignEach es X.env).map (·.2) := by rfl) : ZGs X G B (e :: es) (gsCons g gs) := by
  obtain ⟨te, p, r1⟩ := h1
  obtain ⟨te2, p2, r2⟩ := h2
  refine ⟨_, pgs_cons p p2 hs, fun σ H ss vs ds Q R S r hw fin => ?_⟩
  cases r with
  | nil => exact hw.elim
  | cons ra rb =>
    refine ⟨_, _, rfl, r1 σ H ss _ _ _ _ S ra hw fun σ' H' ss' k S' q => ?_⟩
    exact r2 σ' H' ss' _ _ _ _ S' (rb.kp k) q fun σ2 H2 s2 k2 S2 q2 => fin σ2 H2 s2 (k.trans k2) S2 q2
def gT (n : Nat) (gs : ZG2) : ZG1 := fun d ss Q => match d with
  | .tup ds => Sd (ds.length = n) ∧ gs ds ss Q
  | _ => False
theorem g_tup {es : List Expr} {kk : Nat} {gs : ZG2} {n : Nat} (hc : X.calm = true) (h : ZGs X G B es gs) (hn : (assignEach es X.env).length = n := by rfl) (hst : (assignEach es X.env).findIdx? (·.1) = none := by rfl) : ZG X G B (.Tuple es kk pos) (gT n gs) := by
  obtain ⟨tg, p, r⟩ := h
  refine ⟨_, pg_tup hc p hn hst, fun σ H ss v d Q R S rd hw fin => ?_⟩
  cases d with
  | tup ds =>
    cases rd with
    | tup h1 h2 => exact ⟨_, _, rfl, h1, by rw [h2.length]; exact hw.1.h, r σ H ss _ ds Q R S h2 hw.2 fin⟩
  | _ => exact hw.elim
/-- a list of a name, written at a place -/
def gSubL (to ti : ZT) : ZG1 := fun d ss Q => to ss fun ro s1 => ti s1 fun ri s2 => match ro, ri with
  | .loc i, .d (.int k) => match s2[i]? with
    | some (some (.lst xs)) => ∃ j, Sd (ixN xs.length k = some j) ∧ Q (s2.set i (some (.lst (xs.set j d))))
    | _ => False
  | _, _ => False
theorem g_subL {o i : Expr} {to ti : ZT} (ho : ZE X G B o to) (hi : ZE X G B i ti)
    (ha : ∀ v, assign (.Subscript o i pos) X.env v = (do
      let ov ← holding [v] (eval o X.env)
      let iv ← holding [v, ov] (eval i X.env)
      standAt pos
      holding [v, ov, iv] (setItem ov iv v)
      release [v, ov, iv] []) := by intro _; rfl) : ZG X G B (.Subscript o i pos) (gSubL to ti) := by
  obtain ⟨te, p, r⟩ := ho
  obtain ⟨te2, p2, r2⟩ := hi
  refine ⟨_, pg_sub p p2 set_list ha, fun σ H ss v d Q R S rd hw fin => ?_⟩
  refine r σ H ss _ _ S hw fun ov H1 ro s1 k1 rr q => ?_
  refine r2 σ H1 s1 _ _ rr.sem q fun iv H2 ri s2 k2 rr2 q2 => ?_
  cases ro with
  | loc n =>
    cases ri with
    | d x =>
      cases x with
      | int kk =>
        obtain ⟨S2, ri⟩ := rr2
        cases ri
        obtain ⟨S1, ev⟩ := rr
        cases es : s2[n]? with
        | none => simp only [es] at q2
        | some oo =>
          cases oo with
          | none => simp only [es] at q2
          | some o =>
            cases o with
            | lst xs =>
              simp only [es] at q2
              obtain ⟨j, hj, q2⟩ := q2
              obtain ⟨a, ws, e1, e2, rs, up⟩ := S2.wr es
              rw [ev] at e1; cases e1
              refine ⟨a, ws, kk, j, rfl, rfl, e2, by rw [rs.length]; exact hj.h, ?_⟩
              have kk2 : Kp H2 (upd H2 a (.lst (ws.set j v))) := Kp.upd e2 trivial
              exact fin σ _ _ ((k1.trans k2).trans kk2) (up _ _ (rs.set ((rd.kp k1).kp k2) j)) q2
            | _ => simp only [es] at q2
      | _ => exact q2.elim
    | _ => exact q2.elim
  | _ => exact q2.elim
/-! assignments -/
/-- only what a name owns is frozen -/
def zL (t : ZT) : ZT := fun ss Q => t ss fun r s => match r with
  | .d x => Q (.d x) s
  | .new o => Q (.new o) s
  | .loc i => match s[i]? with
    | some (some o) => match o.fz with
      | some d => Q (.d d) (s.set i (some (.pure d)))
      | none => False
    | _ => False
theorem z_l (h : ZE X G B e t) : ZE X G B e (zL t) := by
  obtain ⟨te, hp, hz⟩ := h
  refine ⟨_, pe_fz hp, fun σ H ss Q R S hw fin => ?_⟩
  refine hz σ H ss _ _ S hw fun v H' r ss' k rr q => ?_
  cases r with
  | d x => exact .inl (fin v H' _ ss' k rr q)
  | new o => exact .inl (fin v H' _ ss' k rr q)
  | loc i =>
    obtain ⟨S', ev⟩ := rr
    cases es : ss'[i]? with
    | none => simp only [es] at q
    | some oo =>
      cases oo with
      | none => simp only [es] at q
      | some o =>
        cases ef : o.fz with
        | none => simp only [es, ef] at q
        | some d =>
          simp only [es, ef] at q
          obtain ⟨v', as, ev', ro, nd, S2⟩ := S'.take es
          rw [ev] at ev'
          cases ev'
          rcases fz_or S2 ro ef with ⟨S3, r3, _⟩ | ⟨a, u, e1, _, e2, mu, q2⟩
          · refine .inl (fin v H' (.d d) _ k (.d' ?_ r3) q)
            have := S3.put ev (.pure r3) List.nodup_nil
            rw [List.set_set] at this; exact this
          · refine .inr ⟨a, u, e1, e2, mu, fun od => ?_⟩
            obtain ⟨S3, r3, k2⟩ := q2 od
            have S4 := S3.put ev (.pure r3) List.nodup_nil
            rw [List.set_set] at S4
            exact fin v _ (.d d) _ (k.trans k2) (.d' S4 r3) q
def zSet (i : Nat) (t : ZT) : ZTS := fun D ss => zL t ss fun r s => match r with
  | .d x => fc (s.set i (some (.pure x))) D.nx
  | .new o => fc (s.set i (some o)) D.nx
  | .loc _ => False
theorem s_set {i : Nat} {x : Str} {pos' : Pos} (hN : X.N.Nodup) (he : ZE X G B e t) (hi : X.N[i]? = some x := by rfl) (hx : Loc X.env.scope x := by first | exact Or.inl rfl | exact Or.inr rfl)
    (hs : swapsWith e (some (.Name x pos')) pos.line X.env = pure false := by rfl) (hf : X.fn x = true ∨ X.env.scope.names.lookup x = some .local := by first | exact .inl rfl | exact .inr rfl) : ZS X G B (.Assign [.Name x pos'] e pos) (zSet i t) := by
  obtain ⟨te, p, z⟩ := z_l he
  refine ⟨_, ps_set hN hi hx p hs hf, fun σ H ss D D' S hw ok => ?_⟩
  refine z σ H ss _ _ S hw fun v H' r ss' k rr q => ?_
  cases r with
  | loc i => exact q.elim
  | d x => exact ok.nx _ H' _ k (rr.1.setD' rr.2) ((fc_iff _ _).mp q)
  | new o =>
    obtain ⟨as, S', ro, nd⟩ := rr
    exact ok.nx _ H' _ k (S'.set' ro nd) ((fc_iff _ _).mp q)
def zAsg (t : ZT) (g : ZG1) : ZTS := fun D ss => zF t ss fun d s => g d s D.nx
theorem s_asg {tg : Expr} {g : ZG1} (he : ZE X G B e t) (hg : ZG X G B tg g) (hs : swapsWithSole [tg] e pos.line X.env = pure false := by rfl) (hw : swappedStores [tg] e X.env = pure none := by rfl)
    (h1 : (assignEach [tg] X.env).map (·.2) = [assign tg X.env] := by rfl) : ZS X G B (.Assign [tg] e pos) (zAsg t g) := by
  obtain ⟨te, p, z⟩ := z_fz he
  obtain ⟨tg', p2, z2⟩ := hg
  refine ⟨_, ps_asg p p2 hs hw h1, fun σ H ss D D' S hw ok => ?_⟩
  refine z σ H ss _ _ S hw fun v H' d ss' k S' r q => ?_
  exact z2 σ H' ss' v d _ _ S' r q fun σ2 H2 s2 k2 S2 q2 => ok.nx σ2 H2 s2 (k.trans k2) S2 q2
/-! ## while -/
structure zWh (c : ZTB) (z : ZTS) (nx : SS → Prop) (rt : RV → SS → Prop) (ss : SS) : Prop where
  h : ∃ W : Nat → SS → Prop, (∃ m, W m ss) ∧ ∀ m ss, W m ss → c ss fun b s1 => Br b (z ⟨fun s => ∃ m', m' < m ∧ W m' s, rt, nx, fun s => ∃ m', m' < m ∧ W m' s⟩ s1) (nx s1)
def zWhile (c : ZTB) (z : ZTS) : ZTS := fun D ss => match D with
  | ⟨nx, rt, _, _⟩ => zWh c z nx rt ss
theorem s_while (C : Ctx X G B Wz k) (hc : ZB X G B c tb) (hb : ZSs X G B body z) : ZS X G B (.While c body [] pos) (zWhile tb z) := by
  obtain ⟨te, p, r⟩ := hc
  obtain ⟨te2, p2, r2⟩ := hb
  refine ⟨_, ps_while C.pass p p2, fun σ H ss D D' S hw ok => ?_⟩
  obtain ⟨⟨W, ⟨m0, w0⟩, turn⟩⟩ := hw
  refine ⟨fun m σ' H' => ∃ ss', Kp H H' ∧ Sm X.K G B [] σ' H' ss' ∧ W m ss', ⟨m0, ss, Kp.refl H, S, w0⟩, ?_⟩
  rintro m σ1 H1 ⟨s1, k1, S1, w1⟩
  refine r σ1 H1 s1 _ _ S1 (turn m s1 w1) fun b H2 s2 k2 S2 q => ?_
  cases b with
  | true =>
    rw [if_pos rfl]
    refine ⟨fun σ' H' => ∃ ss', Kp H H' ∧ Sm X.K G B [] σ' H' ss' ∧ ∃ m', m' < m ∧ W m' ss', ?_, ?_⟩
    · rintro σ3 H3 ⟨s3, k3, S3, m', hm, w3⟩
      exact ⟨m', hm, s3, k3, S3, w3⟩
    · have ok2 := ok.mono (k1.trans k2)
      refine r2 σ1 H2 s2 _ _ S2 (q.t rfl) ⟨fun σ' H' ss' kk S' q' => ⟨ss', (k1.trans k2).trans kk, S', q'⟩, ok2.rt, ok2.nx, fun σ' H' ss' kk S' q' => ⟨ss', (k1.trans k2).trans kk, S', q'⟩⟩
  | false =>
    rw [if_neg Bool.false_ne_true]
    exact ok.nx σ1 H2 s2 (k1.trans k2) S2 (q.f rfl)
/-- a while by what holds when m more turns are made at most -/
theorem while_W {c : ZTB} {z : ZTS} {nx : SS → Prop} {rt : RV → SS → Prop} {ss : SS} (W : Nat → SS → Prop) (m0 : Nat) (h0 : W m0 ss)
    (hs : ∀ m ss, W m ss → c ss fun b s1 => Br b (z ⟨fun s => ∃ m', m' < m ∧ W m' s, rt, nx, fun s => ∃ m', m' < m ∧ W m' s⟩ s1) (nx s1)) : zWh c z nx rt ss := ⟨W, ⟨m0, h0⟩, hs⟩
/-! ## for -/
/-- the iterator J goes over items, wherever what never changes at H stands -/
structure ItOk (K : Frag) (G : Addr → Prop) (J : It) (items : List D) (H : Hp) : Prop where
  go : ∀ H1, Kp H H1 → ∀ i, i < items.length → J.go i H1 ∧ ∀ x H2, J.yld i H1 x H2 → Same H1 H2 ∧ ∃ d, items[i]? = some d ∧ DR K G H2 x d
  stop : ∀ H1, Kp H H1 → ∀ i, items.length ≤ i → i ≤ items.length → J.stop i H1
abbrev ZTI := SS → (List D → SS → Prop) → Prop
def ZIr (K : Frag) (G : Addr → Prop) (B : Hp) (wi : TI) (zi : ZTI) : Prop := ∀ (σ : St) (H : Hp) (ss : SS) (Q : List D → SS → Prop) (R : It → Hp → Prop), Sm K G B [] σ H ss → zi ss Q →
  (∀ J H' items ss', Kp H H' → Sm K G B [] σ H' ss' → ItOk K G J items H' → Q items ss' → R J H') → wi σ H R
def ZIt (X : Cx) (G : Addr → Prop) (B : Hp) (tg e : Expr) (zi : ZTI) : Prop := ∃ wi, PI X tg e wi ∧ ZIr X.K G B wi zi
/-- one turn after the other -/
def zForL (g : ZG1) (z : ZTS) (nx : SS → Prop) (rt : RV → SS → Prop) : List D → SS → Prop
  | [], ss => nx ss
  | x :: xs, ss => g x ss fun s1 => z ⟨fun s => zForL g z nx rt xs s, rt, nx, fun s => zForL g z nx rt xs s⟩ s1
def zFor (zi : ZTI) (g : ZG1) (z : ZTS) : ZTS := fun D ss => match D with
  | ⟨nx, rt, _, _⟩ => zi ss fun items s => zForL g z nx rt items s
theorem s_for {tg iter : Expr} {zi : ZTI} {g : ZG1} (C : Ctx X G B Wz k) (hi : ZIt X G B tg iter zi) (hg : ZG X G B tg g) (hb : ZSs X G B body z) (hs : ∀ x, foldedSetIterable iter X.env x = pure x := by intro _; rfl) : ZS X G B (.For tg iter body [] pos) (zFor zi g z) := by
  obtain ⟨wi, p, r⟩ := hi
  obtain ⟨tg', p2, r2⟩ := hg
  obtain ⟨tb, p3, r3⟩ := hb
  refine ⟨_, ps_for C.pass C.calm p p2 p3 hs, fun σ H ss D D' S hw ok => ?_⟩
  refine r σ H ss _ _ S hw fun J H0 items s0 k0 S0 it q => ?_
  refine ⟨fun i m σ' H' => m = items.length - i ∧ i ≤ items.length ∧ ∃ ss', Kp H0 H' ∧ Sm X.K G B [] σ' H' ss' ∧ zForL g z D.nx D.rt (items.drop i) ss', ⟨_, rfl, Nat.zero_le _, s0, Kp.refl H0, S0, by simpa using q⟩, ?_⟩
  rintro i m σ1 H1 ⟨rfl, hi, s1, k1, S1, q1⟩
  by_cases hlt : i < items.length
  · obtain ⟨g1, y1⟩ := it.go H1 k1 i hlt
    have ed : items.drop i = items[i] :: items.drop (i + 1) := (List.getElem_cons_drop hlt).symm
    rw [ed] at q1
    refine .inr ⟨g1, fun σ' H' => ∃ ss', Kp H0 H' ∧ Sm X.K G B [] σ' H' ss' ∧ zForL g z D.nx D.rt (items.drop (i + 1)) ss', fun σ' H' ⟨s', k', S', q'⟩ => ⟨items.length - (i + 1), by omega, rfl, hlt, s', k', S', q'⟩, fun x H2 y => ?_⟩
    obtain ⟨sm, d, e1, rd⟩ := y1 x H2 y
    have e2 : d = items[i] := by rw [List.getElem?_eq_getElem hlt] at e1; cases e1; rfl
    subst e2
    refine r2 σ1 H2 s1 x _ _ _ (S1.same sm) rd q1 fun σ3 H3 s3 k3 S3 q3 => ?_
    have kk : Kp H0 H3 := (k1.trans (Kp.of sm)).trans k3
    have ok2 := ok.mono (k0.trans kk)
    exact r3 σ3 H3 s3 _ _ S3 q3 ⟨fun σ' H' ss' k' S' q' => ⟨ss', kk.trans k', S', q'⟩, ok2.rt, ok2.nx, fun σ' H' ss' k' S' q' => ⟨ss', kk.trans k', S', q'⟩⟩
  · have e : i = items.length := by omega
    subst e
    rw [List.drop_length] at q1
    exact .inl ⟨it.stop H1 k1 _ (Nat.le_refl _) (Nat.le_refl _), ok.nx σ1 H1 s1 (k0.trans k1) S1 q1⟩
/-! what is walked -/
/-- a list, a tuple, a text, as the value tells -/
def iSeq (K : Frag) (tl : TE) : TI := fun σ H R => tl σ H fun x H1 => (∃ a, x = .ref a ∧ ((∃ xs, SqL K H1 a xs) ∧ R (Itl K a) H1 ∨ (∃ xs, SqT K H1 a xs) ∧ R (Itt K a) H1)) ∨ ∃ z, x = .str z ∧ R (Its z) H1
theorem pi_seq {tg l : Expr} {tl : TE} (hl : PE X l tl) : PI X tg l (iSeq X.K tl) := by
  refine ⟨fun pins s σ H R I h => ?_⟩
  refine thn (hl.run pins s σ H _ I h) fun v s1 ⟨x, H1, I1, r1, q1⟩ => ?_
  rcases q1 with ⟨a, e, q1⟩ | ⟨z, e, q⟩
  · subst e
    cases r1
    rcases q1 with ⟨⟨xs, hq⟩, q⟩ | ⟨⟨xs, hq⟩, q⟩
    · obtain ⟨its, rv, p, hz⟩ := I1.list hq
      refine wpAny_pyIter_list p.isList ?_
      refine ⟨s1.heap.objs.size, [s1.heap.objs.size], _, _, H1, rfl, I1.kept (t' := s1.toks) fun b o e => Heap.get?_push_of_some _ e, turn_list a _, ⟨_, Heap.get?_push_size _ rfl, rfl, rfl⟩, fun b hb => ?_, q⟩
      have e : b = s1.heap.objs.size := by simpa using hb
      subst e
      exact I1.fpOk (Nat.le_refl _) (I1.hok.fresh (Nat.le_refl _))
    · obtain ⟨its, rv, p, hz⟩ := I1.tuple hq
      refine wpAny_pyIter_tuple (show s1.heap.IsTuple a its.toArray from p) ?_
      refine ⟨s1.heap.objs.size, [s1.heap.objs.size], _, _, H1, rfl, I1.kept (t' := s1.toks) fun b o e => Heap.get?_push_of_some _ e, turn_tuple a _, ⟨_, Heap.get?_push_size _ rfl, rfl, rfl⟩, fun b hb => ?_, q⟩
      have e : b = s1.heap.objs.size := by simpa using hb
      subst e
      exact I1.fpOk (Nat.le_refl _) (I1.hok.fresh (Nat.le_refl _))
  · subst e
    obtain ⟨t, rfl⟩ := r1
    cases ha : z.cps.all (· < 128)
    · exact wpAny_pyIter_wide ha (pi_one (tk := s1.toks) I1 _ (turn_str _ z t "str_iterator" (.inr rfl)) ⟨_, Heap.get?_push_size _ rfl, rfl, rfl⟩ q)
    · exact wpAny_pyIter_ascii ha (pi_one (tk := s1.toks) I1 _ (turn_str _ z t "str_ascii_iterator" (.inl rfl)) ⟨_, Heap.get?_push_size _ rfl, rfl, rfl⟩ q)
def ziSeq (t : ZT) : ZTI := fun ss Q => zF t ss fun d s => match d with
  | .lst _ xs => Q xs s
  | .tup xs => Q xs s
  | .str z => Q (z.cps.toList.map fun c => D.str ⟨#[c]⟩) s
  | _ => False
theorem SqL.uniq_frz {K : Frag} {H : Hp} {a : Addr} {o : Obj} {xs ys : List V} (h : H a = some (.frz o (.lst xs))) (h2 : Rd H a (.lst ys)) : xs = ys := by
  rcases h2 with h2 | ⟨o', h2⟩
  · rw [h] at h2; cases h2
  · rw [h] at h2; cases h2; rfl
end

section
variable {X : Cx} {G : Addr → Prop} {B : Hp} {Wz : WZ} {k : Nat} {e a b c : Expr} {t : ZT} {tb : ZTB} {pos : Pos} {st : Stmt} {rest body els : List Stmt} {z u v : ZTS}
theorem itok_list {K : Frag} {H : Hp} {a : Addr} {xs : List V} {ds : List D} (h : ∀ H1, Kp H H1 → SqL K H1 a xs) (r : DRs K G H xs ds) : ItOk K G (Itl K a) ds H := by
  refine ⟨fun H1 k i hi => ?_, fun H1 k i hi _ => ⟨xs, h H1 k, by rw [r.length]; exact hi⟩⟩
  have hx : i < xs.length := by rw [r.length]; exact hi
  refine ⟨⟨xs, xs[i], h H1 k, List.getElem?_eq_getElem hx⟩, fun x H2 y => ?_⟩
  obtain ⟨e, y⟩ := y
  subst e
  obtain ⟨d, e1, rd⟩ := r.get' (y xs (h _ k))
  exact ⟨Same.refl _, d, e1, rd.kp k⟩
theorem itok_tup {K : Frag} {H : Hp} {a : Addr} {xs : List V} {ds : List D} (h : SqT K H a xs) (r : DRs K G H xs ds) : ItOk K G (Itt K a) ds H := by
  refine ⟨fun H1 k i hi => ?_, fun H1 k i hi _ => ⟨xs, sqT_kp k h, by rw [r.length]; exact hi⟩⟩
  have hx : i < xs.length := by rw [r.length]; exact hi
  refine ⟨⟨xs, xs[i], sqT_kp k h, List.getElem?_eq_getElem hx⟩, fun x H2 y => ?_⟩
  obtain ⟨e, y⟩ := y
  subst e
  obtain ⟨d, e1, rd⟩ := r.get' (y xs (sqT_kp k h))
  exact ⟨Same.refl _, d, e1, rd.kp k⟩
theorem itok_str {K : Frag} {H : Hp} (z : Str) : ItOk K G (Its z) (z.cps.toList.map fun c => D.str ⟨#[c]⟩) H := by
  refine ⟨fun H1 k i hi => ?_, fun H1 k i hi _ => (show z.cps.size ≤ i from (by simpa using hi))⟩
  have hx : i < z.cps.size := by simpa using hi
  refine ⟨hx, fun x H2 y => ?_⟩
  obtain ⟨e, c, hc, ex⟩ := y
  subst e; subst ex
  refine ⟨Same.refl _, .str ⟨#[c]⟩, ?_, .str _⟩
  rw [List.getElem?_map, Array.getElem?_toList, hc]; rfl
theorem itok_rng {K : Frag} {H : Hp} (lo : Int) (n : Nat) : ItOk K G (Itr lo n) ((List.range n).map fun i : Nat => D.int (lo + i)) H := by
  refine ⟨fun H1 k i hi => ?_, fun H1 k i hi _ => (show n ≤ i from (by simpa using hi))⟩
  have hx : i < n := by simpa using hi
  refine ⟨hx, fun x H2 y => ?_⟩
  obtain ⟨e, ex⟩ := y
  subst e; subst ex
  refine ⟨Same.refl _, .int (lo + i), ?_, .int _⟩
  rw [List.getElem?_map, List.getElem?_range hx]; rfl
/-- a frozen list's address -/
theorem DR.lq {K : Frag} {H : Hp} {v : V} {m : Nat} {ds : List D} (h : DR K G H v (.lst m ds)) : ∃ a xs, v = .ref a ∧ (∀ H1, Kp H H1 → SqL K H1 a xs) ∧ DRs K G H xs ds := by
  cases h with
  | lst0 a g b => exact ⟨_, _, rfl, fun H1 k => .inl (.inr ⟨_, k.frz _ _ _ a⟩), b⟩
  | lst1 a g b => exact ⟨_, _, rfl, fun H1 k => .inl (.inr ⟨_, k.frz _ _ _ a⟩), b⟩
  | lst2 a b => exact ⟨_, _, rfl, fun H1 k => .inr a, b⟩
/-- a, b, .. = a tuple or a list of that length -/
def gTL (n : Nat) (gs : ZG2) : ZG1 := fun d ss Q => match d with
  | .tup ds => Sd (ds.length = n) ∧ gs ds ss Q
  | .lst _ ds => Sd (ds.length = n) ∧ gs ds ss Q
  | _ => False
theorem pg_either {e : Expr} {t u : TG} (h1 : PG X e t) (h2 : PG X e u) : PG X e fun v σ H Q => t v σ H Q ∨ u v σ H Q :=
  ⟨fun pins s σ H v us Q I r hw => hw.elim (fun q => h1.run pins s σ H v us Q I r q) fun q => h2.run pins s σ H v us Q I r q⟩
theorem g_tupL {es : List Expr} {kk : Nat} {gs : ZG2} {n : Nat} (hc : X.calm = true) (h : ZGs X G B es gs) (hn : (assignEach es X.env).length = n := by rfl) (hst : (assignEach es X.env).findIdx? (·.1) = none := by rfl) : ZG X G B (.Tuple es kk pos) (gTL n gs) := by
  obtain ⟨tg, p, r⟩ := h
  refine ⟨_, pg_either (pg_tup hc p hn hst) (pg_unl hc p hn hst), fun σ H ss v d Q R S rd hw fin => ?_⟩
  cases d with
  | tup ds =>
    cases rd with
    | tup h1 h2 => exact .inl ⟨_, _, rfl, h1, by rw [h2.length]; exact hw.1.h, r σ H ss _ ds Q R S h2 hw.2 fin⟩
  | lst m ds =>
    obtain ⟨a, xs, rfl, g1, g2⟩ := rd.lq
    exact .inr ⟨_, _, rfl, g1 H (Kp.refl _), by rw [g2.length]; exact hw.1.h, r σ H ss _ ds Q R S g2 hw.2 fin⟩
  | _ => exact hw.elim
theorem zi_seq {tg : Expr} (h : ZE X G B e t) : ZIt X G B tg e (ziSeq t) := by
  obtain ⟨te, p, r⟩ := z_fz h
  refine ⟨_, pi_seq p, fun σ H ss Q R S hw fin => ?_⟩
  refine r σ H ss _ _ S hw fun v H1 d s1 k1 S1 rd q => ?_
  cases d with
  | lst m ds =>
    obtain ⟨a, xs, rfl, h1, h2⟩ := rd.lq
    exact .inl ⟨a, rfl, .inl ⟨⟨xs, h1 H1 (Kp.refl _)⟩, fin _ H1 ds s1 k1 S1 (itok_list h1 h2) q⟩⟩
  | tup ds =>
    cases rd with
    | @tup a xs _ h1 h2 => exact .inl ⟨a, rfl, .inr ⟨⟨xs, h1⟩, fin _ H1 ds s1 k1 S1 (itok_tup h1 h2) q⟩⟩
  | str zz =>
    cases rd
    exact .inr ⟨zz, rfl, fin _ H1 _ s1 k1 S1 (itok_str zz) q⟩
  | _ => exact q.elim
def rngD (lo : Int) (n : Nat) : List D := (List.range n).map fun i : Nat => D.int (lo + i)
def ziR1 (ts : ZTA) : ZTI := fun ss Q => ts ss fun rs s => match rs with
  | [.d (.int j)] => Sd (-(2 ^ 62) ≤ j ∧ j < 2 ^ 62) ∧ Q (rngD 0 j.toNat) s
  | _ => False
def ziR2 (ts : ZTA) : ZTI := fun ss Q => ts ss fun rs s => match rs with
  | [.d (.int i), .d (.int j)] => Sd (-(2 ^ 62) ≤ i ∧ i < 2 ^ 62 ∧ -(2 ^ 62) ≤ j ∧ j < 2 ^ 62) ∧ Q (rngD i (j - i).toNat) s
  | _ => False
theorem zi_range1 {tg : Expr} {ts : ZTA} {p : Pos} (hm : X.mg "range" = none) (ha : ZA X G B [a] ts) (hg : Gl X "range" := by rfl) (hs : starEach [a] X.env = [(false, eval a X.env)] := by rfl) : ZIt X G B tg (.Call (.Name "range" p) [a] [] pos) (ziR1 ts) := by
  obtain ⟨te, pa, r⟩ := ha
  refine ⟨_, pi_range1 hg hm pa hs, fun σ H ss Q R S hw fin => ?_⟩
  refine r σ H ss _ _ S hw fun vs H1 rs s1 k1 S1 ar q => ?_
  match rs, vs, ar, q with
  | [.d (.int j)], [v], ar, q =>
    have hr := ar.1
    cases hr
    exact ⟨j, rfl, q.1.h.1, q.1.h.2, fin _ H1 _ s1 k1 S1 (itok_rng 0 j.toNat) q.2⟩
theorem zi_range2 {tg : Expr} {ts : ZTA} {p : Pos} (hm : X.mg "range" = none) (ha : ZA X G B [a, b] ts) (hg : Gl X "range" := by rfl) (hs : starEach [a, b] X.env = [(false, eval a X.env), (false, eval b X.env)] := by rfl) (hs2 : starEach [b] X.env = [(false, eval b X.env)] := by rfl) : ZIt X G B tg (.Call (.Name "range" p) [a, b] [] pos) (ziR2 ts) := by
  obtain ⟨te, pa, r⟩ := ha
  refine ⟨_, pi_range2 hg hm pa hs hs2, fun σ H ss Q R S hw fin => ?_⟩
  refine r σ H ss _ _ S hw fun vs H1 rs s1 k1 S1 ar q => ?_
  match rs, vs, ar, q with
  | [.d (.int i), .d (.int j)], [v, w], ar, q =>
    have hr := ar.1
    have hr2 := ar.2.1
    cases hr
    cases hr2
    exact ⟨i, j, rfl, q.1.h, fin _ H1 _ s1 k1 S1 (itok_rng i _) q.2⟩
/-! ## the rule for a def -/
def retK (Qz : RV → Prop) : RV → SS → Prop := fun r ss => match r with
  | .d x => Qz (.d x)
  | .new o => Qz (.new o)
  | .loc i => match ss[i]? with
    | some (some o) => Qz (.new o)
    | _ => False
def argS : List D → SS
  | [] => []
  | d :: ds => some (.pure d) :: argS ds
theorem argS_map : ∀ ds, argS ds = ds.map (fun d => some (.pure d))
  | [] => rfl
  | d :: ds => by rw [List.map_cons, ← argS_map ds]; rfl
def args (ds : List D) (n : Nat) : SS := argS ds ++ List.replicate (n - ds.length) none
theorem args_sm {K : Frag} {H : Hp} {N : List Str} {vs : List V} {ds : List D} (hg : ∀ a, G a → ∃ o, H a = some o) (r : DRs K G H vs ds) (hl : ds.length ≤ N.length) : Sm K G H [] (L2.start N vs) H (args ds N.length) := by
  have hl2 := r.length
  refine ⟨Same.refl H, ⟨fun _ => [], fun i o h => ?_, fun _ => List.nodup_nil, fun i j a h => by simp at h, fun i a h => by simp at h, fun _ _ => rfl⟩, fun a h => by simp at h, hg, ?_⟩
  · unfold args at h; rw [argS_map] at h
    by_cases hi : i < ds.length
    · rw [List.getElem?_append_left (by simpa using hi), List.getElem?_map] at h
      cases e : ds[i]? with
      | none => rw [e] at h; cases h
      | some d =>
        rw [e] at h; cases h
        obtain ⟨v, e1, rd⟩ := r.get e
        refine ⟨v, ?_, .pure rd⟩
        unfold L2.start
        rw [List.getElem?_append_left (by simp; omega), List.getElem?_map, e1]; rfl
    · rw [List.getElem?_append_right (by simpa using hi), List.getElem?_replicate] at h
      split at h <;> cases h
  · unfold args L2.start; rw [argS_map]
    simp; omega
theorem fn_z {P : Program} {w : World} {K : Frag} {mg : Str → Option Value} {base : Heap} {x qual : Str} {st : Stmt} {f : Addr} {fd : FuncData} {N ps : List Str} {k : Nat} {fs : FS} (F : Fun K x qual st f fd) (S : FnScope N ps (defScope st))
    (hl : ∀ ds Q E, fs ds Q E → ds.length = ps.length) (zs : WZ → ZTS)
    (body : ∀ (cdv : Value) (A : Around) (outer : List Env) (s : Shared) (H : Hp) (E : XK) (G : Addr → Prop) (B : Hp) (Wz : WZ), Ctx (cxOf (L2.CX P w) P w K mg base N qual (defScope st) f cdv A outer s H E) G B Wz k →
      ZSs (cxOf (L2.CX P w) P w K mg base N qual (defScope st) f cdv A outer s H E) G B (defBody st) (zs Wz))
    (read : ∀ ds Qz Ez, fs ds Qz Ez → zs (fun cls ns es _ => Ez cls ns es) ⟨fun _ => Qz (.d .non), retK Qz, fun _ => False, fun _ => False⟩ (args ds N.length)) :
    FnOk P w K mg base (L2.CX P w) (k + 1) f fd ps (toSp K fs) := by
  have hlen : ∀ vs H Q E, toSp K fs vs H Q E → vs.length = ps.length := fun vs H Q E ⟨G, ds, Qz, Ez, _, hd, hf, _⟩ => by rw [hd.length]; exact hl ds Qz Ez hf
  have hps : ps.length ≤ N.length := by have := congrArg List.length S.pre; rw [List.length_take] at this; omega
  refine F.okX S hlen fun cdv A outer s H vs Q E hr hsp => ?_
  obtain ⟨G, ds, Qz, Ez, hg, hd, hf, hq, he⟩ := hsp
  have C : Ctx (cxOf (L2.CX P w) P w K mg base N qual (defScope st) f cdv A outer s H E) G H (fun cls ns es _ => Ez cls ns es) k :=
    ⟨hr, S.nd, rfl, passes_of rfl, ⟨_, takes_of rfl rfl rfl rfl, fun σ H' ss cls d c ns es S' xr w => he cls d H' c ns es S'.keep xr w⟩⟩
  obtain ⟨ts, p, r⟩ := body cdv A outer s H E G H _ C
  refine ⟨ts, p, r _ H _ _ _ (args_sm hg hd (by rw [hl ds Qz Ez hf]; exact hps)) (read ds Qz Ez hf) ⟨fun σ' H' ss' k S' q => ?_, fun σ' v H' r ss' k rr q => ?_, fun _ _ _ _ _ q => q.elim, fun _ _ _ _ _ q => q.elim⟩⟩
  · exact hq .non H' (.d .non) (show Same H H' ∧ DR K G H' .non .non from ⟨S'.keep, .non⟩) q
  · cases r with
    | d x => exact hq v H' (.d x) (show Same H H' ∧ DR K G H' v x from ⟨rr.1.keep, rr.2⟩) q
    | new o =>
      obtain ⟨as, S', ro, nd⟩ := rr
      exact hq v H' (.new o) ⟨as, S'.keep, ro, nd, S'.nn⟩ q
    | loc i =>
      obtain ⟨S', ev⟩ := rr
      unfold retK at q
      cases es : ss'[i]? with
      | none => simp only [es] at q
      | some oo =>
        cases oo with
        | none => simp only [es] at q
        | some o =>
          simp only [es] at q
          obtain ⟨v', as, ev', ro, nd, S2⟩ := S'.take es
          rw [ev] at ev'; cases ev'
          exact hq v H' (.new o) ⟨as, S2.keep, ro, nd, S2.nn⟩ q
/-! ## comprehensions -/
def wipS (ss : SS) : List Nat → SS
  | [] => ss
  | v :: vs => (wipS ss vs).set v none
theorem Sm.wip {K : Frag} {σ : St} {H : Hp} {ss : SS} (S : Sm K G B [] σ H ss) : ∀ vs : List Nat, Sm K G B [] (wipe σ vs) H (wipS ss vs)
  | [] => S
  | v :: vs => by
    have S1 := Sm.wip S vs
    have S2 := S1.drop v
    obtain ⟨A, W⟩ := S2.own
    refine ⟨S2.keep, ⟨A, fun i o h => ?_, W.nd, W.ap, W.fr, W.off⟩, S2.nn, S2.gb, ?_⟩
    · have h' : ((wipS ss vs).set v none)[i]? = some (some o) := h
      obtain ⟨w, e, r⟩ := W.at_ i o h'
      refine ⟨w, ?_, r⟩
      unfold wipe
      rcases get_set h' with ⟨rfl, q⟩ | ⟨ne, _⟩
      · cases q
      · rw [List.getElem?_set_ne (Ne.symm ne)]; exact e
    · unfold wipe wipS
      simp only [List.length_set]
      exact S1.len
theorem wipe_wipe (σ : St) : ∀ vs : List Nat, wipe (wipe σ vs) vs = wipe σ vs
  | vs => by
    apply List.ext_getElem?
    intro i
    have key : ∀ (us : List Nat) (τ : St) (i : Nat), (wipe τ us)[i]? = if i ∈ us then (τ[i]?).map (fun _ => none) else τ[i]? := by
      intro us
      induction us with
      | nil => intro τ i; simp [wipe]
      | cons u us ih =>
        intro τ i
        show ((wipe τ us).set u none)[i]? = _
        by_cases e : u = i
        · subst e
          rw [List.getElem?_set]
          simp only [List.mem_cons, true_or, if_true]
          by_cases hl : u < (wipe τ us).length
          · rw [if_pos hl]
            have : u < τ.length := by rw [wipe_length] at hl; exact hl
            rw [List.getElem?_eq_getElem this]; rfl
          · rw [if_neg hl]
            have : τ.length ≤ u := by rw [wipe_length] at hl; omega
            rw [List.getElem?_eq_none this]; rfl
        · rw [List.getElem?_set_ne e, ih]
          have : (i ∈ u :: us) ↔ i ∈ us := by simp [Ne.symm e]
          by_cases h : i ∈ us
          · rw [if_pos h, if_pos (this.mpr h)]
          · rw [if_neg h, if_neg (fun q => h (this.mp q))]
    rw [key, key]
    by_cases h : i ∈ vs
    · rw [if_pos h, if_pos h]; cases σ[i]? <;> rfl
    · rw [if_neg h, if_neg h]
end

/-! ## list comprehensions -/
section
variable {K : Frag} {G : Addr → Prop} {B : Hp} {σ : St} {H : Hp} {ss : SS} {D₀ : Addr}
theorem Sm.hide {o : HO} (S : Sm K G B [D₀] σ H ss) (h : H D₀ = some o) : Sm K G (upd B D₀ o) [] σ H ss := by
  obtain ⟨A, W⟩ := S.own
  refine ⟨fun b u e => ?_, ⟨A, W.at_, W.nd, W.ap, fun i a ha => ⟨?_, by simp⟩, W.off⟩, fun a ha => by simp at ha, fun a g => ?_, S.len⟩
  · by_cases q : b = D₀
    · subst q; rw [upd_same] at e; cases e; exact h
    · rw [upd_ne q] at e; exact S.keep b u e
  · have q := W.fr i a ha
    rw [upd_ne (fun z => q.2 (by simp [z]))]; exact q.1
  · obtain ⟨u, hu⟩ := S.gb a g
    by_cases q : a = D₀
    · subst q; exact ⟨o, upd_same⟩
    · exact ⟨u, by rw [upd_ne q]; exact hu⟩
theorem Sm.shown {o : HO} (S : Sm K G (upd B D₀ o) [] σ H ss) (h : B D₀ = none) (hg : ∀ a, G a → ∃ u, B a = some u) : Sm K G B [D₀] σ H ss := by
  obtain ⟨A, W⟩ := S.own
  refine ⟨fun b u e => ?_, ⟨A, W.at_, W.nd, W.ap, fun i a ha => ?_, W.off⟩, fun a ha => ?_, hg, S.len⟩
  · refine S.keep b u ?_
    rw [upd_ne (ne_of_none e h)]; exact e
  · have q := (W.fr i a ha).1
    by_cases z : a = D₀
    · subst z; rw [upd_same] at q; cases q
    · rw [upd_ne z] at q; exact ⟨q, by simp [z]⟩
  · simp at ha; rw [ha]; exact h
theorem Sm.wrN {xs ys : List V} (S : Sm K G B [D₀] σ H ss) (h : H D₀ = some (.lst xs)) : Sm K G B [D₀] σ (upd H D₀ (.lst ys)) ss ∧ Kp H (upd H D₀ (.lst ys)) := by
  have kp : Kp H (upd H D₀ (.lst ys)) := Kp.upd h trivial
  obtain ⟨A, W⟩ := S.own
  refine ⟨⟨fun b o eb => ?_, ⟨A, fun i o eb => ?_, W.nd, W.ap, W.fr, W.off⟩, S.nn, S.gb, S.len⟩, kp⟩
  · rw [upd_ne (ne_of_none eb (S.nn D₀ (by simp)))]
    exact S.keep b o eb
  · obtain ⟨w, e1, r1⟩ := W.at_ i o eb
    exact ⟨w, e1, r1.kp kp fun b hb => upd_ne fun q => (W.fr i b hb).2 (by simp [q])⟩
theorem Sm.unwip {N : List Addr} {vs : List Nat} (S : Sm K G B N (wipe σ vs) H ss) : Sm K G B N σ H ss := by
  obtain ⟨A, W⟩ := S.own
  refine ⟨S.keep, ⟨A, fun i o e => ?_, W.nd, W.ap, W.fr, W.off⟩, S.nn, S.gb, by rw [S.len, wipe_length]⟩
  obtain ⟨w, e1, r1⟩ := W.at_ i o e
  exact ⟨w, (wipe_some e1).1, r1⟩
theorem Sm.wipN {N : List Addr} {vs : List Nat} (S : Sm K G B N σ H ss) : Sm K G B N (wipe σ vs) H (wipS ss vs) := by
  have S1 := S.weak.wip vs
  obtain ⟨A, W⟩ := S.own
  have hs : ∀ (us : List Nat) (i : Nat) (o : O), (wipS ss us)[i]? = some (some o) → ss[i]? = some (some o) := by
    intro us
    induction us with
    | nil => intro i o h; exact h
    | cons u us ih =>
      intro i o h
      have h' : ((wipS ss us).set u none)[i]? = some (some o) := h
      rcases get_set h' with ⟨rfl, q⟩ | ⟨ne, q⟩
      · cases q
      · exact ih i o q
  obtain ⟨A1, W1⟩ := S1.own
  refine ⟨S1.keep, ⟨fun i => (match (wipS ss vs)[i]? with | some (some _) => A i | _ => []), fun i o e => ?_, fun i => ?_, fun i j a h1 h2 => ?_, fun i a h => ?_, fun i q => ?_⟩, S.nn, S.gb, S1.len⟩
  · simp only [e]
    obtain ⟨w, e1, r1⟩ := W.at_ i o (hs vs i o e)
    obtain ⟨w1, e2, _⟩ := W1.at_ i o e
    have e3 := (wipe_some e2).1
    rw [e1] at e3; cases e3
    exact ⟨w, e2, r1⟩
  · split
    · exact W.nd i
    · exact List.nodup_nil
  · split at h1
    · split at h2
      · exact W.ap i j a h1 h2
      · simp at h2
    · simp at h1
  · split at h
    · exact W.fr i a h
    · simp at h
  · split
    · rename_i o e; exact absurd e (q o)
    · rfl
theorem wipe_set {v : Option V} {vs : List Nat} {i : Nat} (h : i ∈ vs) (σ : St) : wipe (σ.set i v) vs = wipe σ vs := by
  have key : ∀ (us : List Nat) (τ : St) (i : Nat), (wipe τ us)[i]? = if i ∈ us then (τ[i]?).map (fun _ => none) else τ[i]? := by
    intro us
    induction us with
    | nil => intro τ i; simp [wipe]
    | cons u us ih =>
      intro τ i
      show ((wipe τ us).set u none)[i]? = _
      by_cases e : u = i
      · subst e
        rw [List.getElem?_set]
        simp only [List.mem_cons, true_or, if_true]
        by_cases hl : u < (wipe τ us).length
        · rw [if_pos hl]
          have : u < τ.length := by rw [wipe_length] at hl; exact hl
          rw [List.getElem?_eq_getElem this]; rfl
        · rw [if_neg hl]
          have : τ.length ≤ u := by rw [wipe_length] at hl; omega
          rw [List.getElem?_eq_none this]; rfl
      · rw [List.getElem?_set_ne e, ih]
        have : (i ∈ u :: us) ↔ i ∈ us := by simp [Ne.symm e]
        by_cases h : i ∈ us
        · rw [if_pos h, if_pos (this.mpr h)]
        · rw [if_neg h, if_neg (fun q => h (this.mp q))]
  apply List.ext_getElem?
  intro j
  rw [key, key]
  by_cases hj : j ∈ vs
  · rw [if_pos hj, if_pos hj]
    by_cases e : i = j
    · subst e
      by_cases hl : i < σ.length
      · rw [List.getElem?_set_self hl, List.getElem?_eq_getElem hl]; rfl
      · rw [List.getElem?_eq_none (by simpa using hl), List.getElem?_eq_none (by omega)]
    · rw [List.getElem?_set_ne e]
  · rw [if_neg hj, if_neg hj, List.getElem?_set_ne (fun e => hj (by rw [← e]; exact h))]
end
/-- the reading that t says, in any context -/
def teOf (K : Frag) (G : Addr → Prop) (t : ZT) : TE := fun σ H R => ∃ (B : Hp) (ss : SS) (Q : RV → SS → Prop), Sm K G B [] σ H ss ∧ t ss Q ∧ ∀ v H' r ss', Kp H H' → RR K G B σ H' ss' v r → Q r ss' → R v H'
theorem pe_of {X : Cx} {G : Addr → Prop} {e : Expr} {t : ZT} (h : ∀ B, ZE X G B e t) : PE X e (teOf X.K G t) := by
  refine ⟨fun pins s σ H R I hw => ?_⟩
  obtain ⟨B, ss, Q, S, ht, fin⟩ := hw
  obtain ⟨te, p, z⟩ := h B
  exact p.run pins s σ H R I (z σ H ss Q R S ht fin)
def ttOf (K : Frag) (G : Addr → Prop) (t : ZTB) : TT := fun σ H R => ∃ (B : Hp) (ss : SS) (Q : Bool → SS → Prop), Sm K G B [] σ H ss ∧ t ss Q ∧ ∀ b H' ss', Kp H H' → Sm K G B [] σ H' ss' → Q b ss' → R b H'
def ZTs (X : Cx) (G : Addr → Prop) (B : Hp) (es : List Expr) (t : ZTB) : Prop := ∃ te, PTs X es te ∧ ZrB X.K G B te t
theorem pts_of {X : Cx} {G : Addr → Prop} {es : List Expr} {t : ZTB} (h : ∀ B, ZTs X G B es t) : PTs X es (ttOf X.K G t) := by
  refine ⟨fun pins s σ H R I hw => ?_⟩
  obtain ⟨B, ss, Q, S, ht, fin⟩ := hw
  obtain ⟨te, p, z⟩ := h B
  exact p.run pins s σ H R I (z σ H ss Q R S ht fin)
def zYes : ZTB := fun ss Q => Q true ss
theorem ts_nil {X : Cx} {G : Addr → Prop} {B : Hp} : ZTs X G B [] zYes := ⟨_, pts_nil, fun σ H ss Q R S hw fin => fin true H ss (Kp.refl H) S hw⟩
theorem ts_one {X : Cx} {G : Addr → Prop} {B : Hp} {c : Expr} {t : ZTB} (h : ZB X G B c t) : ZTs X G B [c] t := by obtain ⟨te, p, z⟩ := h; exact ⟨_, pts_one p, z⟩
/-- a target of a comprehension: only the slots vs change -/
def tgOf (K : Frag) (G : Addr → Prop) (vs : List Nat) (g : ZG1) : TG := fun v σ H R => ∃ (B : Hp) (ss : SS) (d : D) (Q : SS → Prop), Sm K G B [] σ H ss ∧ DR K G H v d ∧ g d ss Q ∧ ∀ σ' H' ss', wipe σ' vs = wipe σ vs → Kp H H' → Sm K G B [] σ' H' ss' → Q ss' → R σ' H'
def ZGc (X : Cx) (G : Addr → Prop) (B : Hp) (vs : List Nat) (e : Expr) (g : ZG1) : Prop := ∃ tg, PG X e tg ∧ ∀ (σ : St) (H : Hp) (ss : SS) (v : V) (d : D) (Q : SS → Prop) (R : St → Hp → Prop), Sm X.K G B [] σ H ss → DR X.K G H v d → g d ss Q →
  (∀ σ' H' ss', wipe σ' vs = wipe σ vs → Kp H H' → Sm X.K G B [] σ' H' ss' → Q ss' → R σ' H') → tg v σ H R
def ZGcs (X : Cx) (G : Addr → Prop) (B : Hp) (vs : List Nat) (es : List Expr) (g : ZG2) : Prop := ∃ tg : TGs, PGs X es tg ∧ ∀ (σ : St) (H : Hp) (ss : SS) (ws : List V) (ds : List D) (Q : SS → Prop) (R : St → Hp → Prop), Sm X.K G B [] σ H ss → DRs X.K G H ws ds → g ds ss Q →
  (∀ σ' H' ss', wipe σ' vs = wipe σ vs → Kp H H' → Sm X.K G B [] σ' H' ss' → Q ss' → R σ' H') → tg ws σ H R
theorem pg_of {X : Cx} {G : Addr → Prop} {vs : List Nat} {e : Expr} {g : ZG1} (h : ∀ B, ZGc X G B vs e g) : PG X e (tgOf X.K G vs g) := by
  refine ⟨fun pins s σ H v u R I rv hw => ?_⟩
  obtain ⟨B, ss, d, Q, S, rd, hg, fin⟩ := hw
  obtain ⟨tg, p, z⟩ := h B
  exact p.run pins s σ H v u R I rv (z σ H ss v d Q R S rd hg fin)
section
variable {X : Cx} {G : Addr → Prop} {B : Hp} {Wz : WZ} {k : Nat} {e : Expr} {pos : Pos} {vs : List Nat}
theorem gc_name {i : Nat} {x : Str} (hN : X.N.Nodup) (hi : X.N[i]? = some x := by rfl) (hm : i ∈ vs := by decide) (hx : Loc X.env.scope x := by first | exact Or.inl rfl | exact Or.inr rfl) (hf : X.fn x = true ∨ X.env.scope.names.lookup x = some .local := by first | exact .inl rfl | exact .inr rfl) : ZGc X G B vs (.Name x pos) (gN i) :=
  ⟨_, pg_name hN hi hx hf, fun σ H ss v d Q R S r hw fin => fin _ H _ (wipe_set hm σ) (Kp.refl H) (S.setD' r) ((fc_iff _ _).mp hw)⟩
theorem gcs_nil : ZGcs X G B vs [] gsNil := by
  refine ⟨_, pgs_nil, fun σ H ss ws ds Q R S r hw fin => ?_⟩
  cases r with
  | nil => exact ⟨rfl, fin σ H ss rfl (Kp.refl H) S hw⟩
  | cons _ _ => exact hw.elim
theorem gcs_cons {es : List Expr} {g : ZG1} {gs : ZG2} (h1 : ZGc X G B vs e g) (h2 : ZGcs X G B vs es gs) (hs : (assignEach (e :: es) X.env).map (·.2) = assign e X.env :: (assignEach es X.env).map (·.2) := by rfl) : ZGcs X G B vs (e :: es) (gsCons g gs) := by
  obtain ⟨te, p, r1⟩ := h1
  obtain ⟨te2, p2, r2⟩ := h2
  refine ⟨_, pgs_cons p p2 hs, fun σ H ss ws ds Q R S r hw fin => ?_⟩
  cases r with
  | nil => exact hw.elim
  | cons ra rb =>
    refine ⟨_, _, rfl, r1 σ H ss _ _ _ _ S ra hw fun σ' H' ss' w k S' q => ?_⟩
    exact r2 σ' H' ss' _ _ _ _ S' (rb.kp k) q fun σ2 H2 s2 w2 k2 S2 q2 => fin σ2 H2 s2 (w2.trans w) (k.trans k2) S2 q2
theorem gc_tup {es : List Expr} {kk : Nat} {gs : ZG2} {n : Nat} (hc : X.calm = true) (h : ZGcs X G B vs es gs) (hn : (assignEach es X.env).length = n := by rfl) (hst : (assignEach es X.env).findIdx? (·.1) = none := by rfl) : ZGc X G B vs (.Tuple es kk pos) (gT n gs) := by
  obtain ⟨tg, p, r⟩ := h
  refine ⟨_, pg_tup hc p hn hst, fun σ H ss v d Q R S rd hw fin => ?_⟩
  cases d with
  | tup ds =>
    cases rd with
    | tup h1 h2 => exact ⟨_, _, rfl, h1, by rw [h2.length]; exact hw.1.h, r σ H ss _ ds Q R S h2 hw.2 fin⟩
  | _ => exact hw.elim
/-- one turn after the other -/
def zLcL (g : ZG1) (tt : ZTB) (t : ZT) (vs : List Nat) (Q : List D → SS → Prop) : List D → List D → SS → Prop
  | [], acc, ss => Q acc ss
  | x :: xs, acc, ss => g x ss fun s2 => tt s2 fun b s3 => Br b (zF t s3 fun y s4 => Sd (acc.length < sizeLine) ∧ fc (wipS s4 vs) fun s5 => zLcL g tt t vs Q xs (acc ++ [y]) s5) (fc (wipS s3 vs) fun s5 => zLcL g tt t vs Q xs acc s5)
def zLcQ (zi : ZTI) (g : ZG1) (tt : ZTB) (t : ZT) (vs : List Nat) (ss : SS) (Q : List D → SS → Prop) : Prop := zi ss fun items s => fc (wipS s vs) fun s5 => zLcL g tt t vs Q items [] s5
def zLc (zi : ZTI) (g : ZG1) (tt : ZTB) (t : ZT) (vs : List Nat) : ZT := fun ss Q => zLcQ zi g tt t vs ss fun acc s' => Q (.new (.lst acc)) s'
/-- nothing that is raised leaves a comprehension's block -/
theorem Ctx.blk (C : Ctx X G B Wz k) (s : Shared) (H : Hp) (scope : Scope) (cenv : Env) (fp : List Addr) (B' : Hp) : Ctx (X.blk s H scope cenv fp) G B' (fun _ _ _ _ => False) k :=
  ⟨C.room, C.nd, C.calm, PassesOwn.never, ⟨fun _ _ _ _ => False, takes0, fun _ _ _ _ _ _ _ _ _ _ h => h⟩⟩
theorem lc_zr {K : Frag} {wi : TI} {zi : ZTI} {g : ZG1} {tt : ZTB} {t : ZT} (hi : ZIr K G B wi zi) (σ : St) (H : Hp) (ss : SS) (Q : List D → SS → Prop) (R : VK) (S : Sm K G B [] σ H ss) (hw : zLcQ zi g tt t vs ss Q)
    (fin : ∀ v H' acc ss', Kp H H' → RR K G B σ H' ss' v (.new (.lst acc)) → Q acc ss' → R v H') : tLc wi (tgOf K G vs g) (ttOf K G tt) (tFz (teOf K G t)) vs σ H R := by
  refine hi σ H ss _ _ S hw fun J H0 items s0 k0 S0 it q D nD => ?_
  have sm0 : Same H0 (upd H0 D (.lst [])) := fun b o e => by rw [upd_ne (ne_of_none e nD)]; exact e
  have S1 : Sm K G B [D] (wipe σ vs) (upd H0 D (.lst [])) (wipS s0 vs) := (S0.alloc (N := [D]) sm0 fun a ha => by simp at ha; rw [ha]; exact nD).wipN
  refine ⟨fun i m H' => m = items.length - i ∧ i ≤ items.length ∧ ∃ (ss' : SS) (acc : List L2.V) (ds : List Z.D), Kp H0 H' ∧ Sm K G B [D] (wipe σ vs) H' ss' ∧ H' D = some (.lst acc) ∧ DRs K G H' acc ds ∧ zLcL g tt t vs Q (items.drop i) ds ss',
    ⟨_, rfl, Nat.zero_le _, _, [], [], Kp.of sm0, S1, upd_same, .nil, by simpa using (fc_iff _ _).mp q⟩, ?_⟩
  rintro i m H1 ⟨rfl, hil, s1, acc, ds, k1, S1, hD, rds, q1⟩
  by_cases hlt : i < items.length
  · obtain ⟨g1, y1⟩ := it.go H1 k1 i hlt
    have ed : items.drop i = items[i] :: items.drop (i + 1) := (List.getElem_cons_drop hlt).symm
    rw [ed] at q1
    refine .inr ⟨g1, fun H' => ∃ (ss' : SS) (acc : List L2.V) (ds : List Z.D), Kp H0 H' ∧ Sm K G B [D] (wipe σ vs) H' ss' ∧ H' D = some (.lst acc) ∧ DRs K G H' acc ds ∧ zLcL g tt t vs Q (items.drop (i + 1)) ds ss',
      fun H' h => ⟨items.length - (i + 1), by omega, rfl, hlt, h⟩, fun x H2 y => ?_⟩
    obtain ⟨sm, d, e1, rd⟩ := y1 x H2 y
    have e2 : d = items[i] := by rw [List.getElem?_eq_getElem hlt] at e1; cases e1; rfl
    subst e2
    have hD2 := sm _ _ hD
    have S2 := (S1.same sm).hide hD2
    refine ⟨_, s1, _, _, S2, rd, q1, fun σ3 H3 s3 w3 k3 S3 q3 => ⟨w3.trans (wipe_wipe σ vs), ?_⟩⟩
    refine ⟨_, s3, _, S3, q3, fun b H4 s4 k4 S4 q4 => ?_⟩
    have kk4 : Kp H1 H4 := ((Kp.of sm).trans k3).trans k4
    have ws : ∀ {H' : Hp} {s' : SS}, Sm K G B [D] σ3 H' s' → Sm K G B [D] (wipe σ vs) H' (wipS s' vs) := fun {H' s'} S' => by
      have := S'.wipN (vs := vs)
      rw [w3.trans (wipe_wipe σ vs)] at this; exact this
    have bD : B D = none := S1.nn D (by simp)
    cases b with
    | false =>
      dsimp only
      rw [if_neg Bool.false_ne_true]
      exact ⟨_, acc, ds, k1.trans kk4, ws (S4.shown bD S1.gb), S4.keep D _ upd_same, rds.kp kk4, (fc_iff _ _).mp (q4.f rfl)⟩
    | true =>
      dsimp only
      rw [if_pos rfl]
      have q5 := q4.t rfl
      -- the element, frozen
      have hz : ZrD K G (upd B D (.lst acc)) (tFz (teOf K G t)) (zF t) := by
        intro σ H ss Q R S hw fin
        refine ⟨_, ss, _, S, hw, fun v H' r ss' k rr q => ?_⟩
        cases r with
        | d x => exact .inl (fin v H' x ss' k rr.1 rr.2 q)
        | new o =>
          obtain ⟨as, S', ro, nd⟩ := rr
          cases ef : o.fz with
          | none => simp only [ef] at q
          | some d =>
            simp only [ef] at q
            rcases fz_or S' ro ef with ⟨S2, r2, _⟩ | ⟨a, u, e1, _, e2, mu, q2⟩
            · exact .inl (fin v H' d ss' k S2 r2 q)
            · refine .inr ⟨a, u, e1, e2, mu, fun od => ?_⟩
              obtain ⟨S2, r2, k2⟩ := q2 od
              exact fin v _ d ss' (k.trans k2) S2 r2 q
        | loc i =>
          obtain ⟨S', ev⟩ := rr
          cases es : ss'[i]? with
          | none => simp only [es] at q
          | some oo =>
            cases oo with
            | none => simp only [es] at q
            | some o =>
              cases ef : o.fz with
              | none => simp only [es, ef] at q
              | some d =>
                simp only [es, ef] at q
                obtain ⟨v', as, ev', ro, nd, S2⟩ := S'.take es
                rw [ev] at ev'
                cases ev'
                rcases fz_or S2 ro ef with ⟨S3, r3, _⟩ | ⟨a, u, e1, _, e2, mu, q2⟩
                · refine .inl (fin v H' d _ k ?_ r3 q)
                  have := S3.put ev (.pure r3) List.nodup_nil
                  rw [List.set_set] at this; exact this
                · refine .inr ⟨a, u, e1, e2, mu, fun od => ?_⟩
                  obtain ⟨S3, r3, k2⟩ := q2 od
                  have S4 := S3.put ev (.pure r3) List.nodup_nil
                  rw [List.set_set] at S4
                  exact fin v _ d _ (k.trans k2) S4 r3 q
      refine hz σ3 H4 s4 _ _ S4 q5 fun y H5 d5 s5 k5 S5 r5 q6 => ?_
      have hD5 := S5.keep D _ upd_same
      have S6 := S5.shown bD S1.gb
      obtain ⟨S7, k7⟩ := S6.wrN (ys := acc ++ [y]) hD5
      have kk5 := (kk4.trans k5).trans k7
      exact ⟨acc, hD5, by rw [rds.length]; exact q6.1.h, _, acc ++ [y], ds ++ [d5], k1.trans kk5, ws S7, upd_same, (rds.kp kk5).append (.cons (r5.kp k7) .nil), (fc_iff _ _).mp q6.2⟩
  · have e : i = items.length := by omega
    subst e
    rw [List.drop_length] at q1
    refine .inl ⟨it.stop H1 k1 _ (Nat.le_refl _) (Nat.le_refl _), ?_⟩
    exact fin (.ref D) H1 ds s1 (k0.trans k1) (show ∃ as, Sm K G B as σ H1 s1 ∧ OR K G H1 (.ref D) (.lst ds) as ∧ as.Nodup from ⟨[D], S1.unwip, .lst hD rds, by simp⟩) q1
theorem z_lc {elt tg iter : Expr} {ifs : List Expr} {scope : Scope} {own : List (Str × Nat)} {zi : ZTI} {g : ZG1} {tt : ZTB} {t : ZT} (C : Ctx X G B Wz k) (hi : ZIt X G B tg iter zi) (ok : BlkOk X.N X.env.scope scope own)
    (hg : ∀ (s : Shared) (H : Hp) (C' : Addr) (cl : List (Str × Addr)) (fp : List Addr) (B' : Hp), Ctx (X.blk s H scope (compEnvC scope cl C' X.env) fp) G B' (fun _ _ _ _ => False) k → ZGc (X.blk s H scope (compEnvC scope cl C' X.env) fp) G B' (own.map (·.2)) tg g)
    (ht : ∀ (s : Shared) (H : Hp) (C' : Addr) (cl : List (Str × Addr)) (fp : List Addr) (B' : Hp), Ctx (X.blk s H scope (compEnvC scope cl C' X.env) fp) G B' (fun _ _ _ _ => False) k → ZTs (X.blk s H scope (compEnvC scope cl C' X.env) fp) G B' ifs tt)
    (he : ∀ (s : Shared) (H : Hp) (C' : Addr) (cl : List (Str × Addr)) (fp : List Addr) (B' : Hp), Ctx (X.blk s H scope (compEnvC scope cl C' X.env) fp) G B' (fun _ _ _ _ => False) k → ZE (X.blk s H scope (compEnvC scope cl C' X.env) fp) G B' elt t)
    (hs : ∀ x, foldedSetIterable iter X.env x = pure x := by intro _; rfl) : ZE X G B (.ListComp elt [⟨tg, iter, ifs, 0⟩] scope pos) (zLc zi g tt t (own.map (·.2))) := by
  obtain ⟨wi, p, r⟩ := hi
  refine ⟨_, pe_lc (te := tFz (teOf X.K G t)) (tt := ttOf X.K G tt) (g := tgOf X.K G (own.map (·.2)) g) C.calm C.nd p ok (fun s H C' cl fp => pg_of fun B' => hg s H C' cl fp B' (C.blk s H scope _ fp B')) (fun s H C' cl fp => pts_of fun B' => ht s H C' cl fp B' (C.blk s H scope _ fp B'))
    (fun s H C' cl fp => pe_fz (pe_of fun B' => he s H C' cl fp B' (C.blk s H scope _ fp B'))) hs, fun σ H ss Q R S hw fin => lc_zr r σ H ss _ R S hw fun v H' acc ss' k rr q => fin v H' _ ss' k rr q⟩
/-- name = [..] on one line -/
theorem s_setLc {i : Nat} {y : Str} {py spos : Pos} {elt tg iter : Expr} {ifs : List Expr} {scope : Scope} {own : List (Str × Nat)} {zi : ZTI} {g : ZG1} {tt : ZTB} {t : ZT} (C : Ctx X G B Wz k) (hi : ZIt X G B tg iter zi) (ok : BlkOk X.N X.env.scope scope own)
    (hg : ∀ (s : Shared) (H : Hp) (C' : Addr) (cl : List (Str × Addr)) (fp : List Addr) (B' : Hp), Ctx (X.blk s H scope (compEnvC scope cl C' X.env) fp) G B' (fun _ _ _ _ => False) k → ZGc (X.blk s H scope (compEnvC scope cl C' X.env) fp) G B' (own.map (·.2)) tg g)
    (ht : ∀ (s : Shared) (H : Hp) (C' : Addr) (cl : List (Str × Addr)) (fp : List Addr) (B' : Hp), Ctx (X.blk s H scope (compEnvC scope cl C' X.env) fp) G B' (fun _ _ _ _ => False) k → ZTs (X.blk s H scope (compEnvC scope cl C' X.env) fp) G B' ifs tt)
    (he : ∀ (s : Shared) (H : Hp) (C' : Addr) (cl : List (Str × Addr)) (fp : List Addr) (B' : Hp), Ctx (X.blk s H scope (compEnvC scope cl C' X.env) fp) G B' (fun _ _ _ _ => False) k → ZE (X.blk s H scope (compEnvC scope cl C' X.env) fp) G B' elt t)
    (hsw : swapsWith (.ListComp elt [⟨tg, iter, ifs, 0⟩] scope pos) (some (.Name y py)) spos.line X.env = pure true) (hy : X.N[i]? = some y := by rfl) (hyl : X.env.scope.names.lookup y = some .local := by rfl)
    (hs : ∀ x, foldedSetIterable iter X.env x = pure x := by intro _; rfl) : ZS X G B (.Assign [.Name y py] (.ListComp elt [⟨tg, iter, ifs, 0⟩] scope pos) spos) (zSet i (zLc zi g tt t (own.map (·.2)))) := by
  obtain ⟨wi, p, r⟩ := hi
  refine ⟨_, ps_setLc (te := tFz (teOf X.K G t)) (tt := ttOf X.K G tt) (g := tgOf X.K G (own.map (·.2)) g) C.calm C.nd hy hyl hsw p ok (fun s H C' cl fp => pg_of fun B' => hg s H C' cl fp B' (C.blk s H scope _ fp B')) (fun s H C' cl fp => pts_of fun B' => ht s H C' cl fp B' (C.blk s H scope _ fp B'))
    (fun s H C' cl fp => pe_fz (pe_of fun B' => he s H C' cl fp B' (C.blk s H scope _ fp B'))) hs, fun σ H ss D D' S hw ok => ?_⟩
  refine lc_zr r σ H ss _ _ S hw fun v H' acc ss' k rr q => ?_
  obtain ⟨as, S', ro, nd⟩ := rr
  exact ok.nx _ H' _ k (S'.set' ro nd) ((fc_iff _ _).mp q)
end

section
variable {X : Cx} {G : Addr → Prop} {B : Hp} {Wz : WZ} {k : Nat} {e o a b : Expr} {es : List Expr} {t ta tb : ZT} {ts : ZTA} {pos apos cpos p : Pos}
abbrev W0 : WZ := fun _ _ _ _ => False
/-! ## isinstance of a built-in type -/
inductive TyN where
  | int | bool | str | list | tuple
def TyN.nm : TyN → String
  | .int => "int" | .bool => "bool" | .str => "str" | .list => "list" | .tuple => "tuple"
def D.tyS : D → Option String
  | .non => some "NoneType" | .bl _ => some "bool" | .int _ => some "int" | .str _ => some "str" | .lst _ _ => some "list" | .tup _ => some "tuple" | .dct _ _ _ => some "dict"
  | _ => none
def D.isA : TyN → D → Option Bool
  | .int, .int _ => some true | .int, .bl _ => some true
  | .bool, .bl _ => some true
  | .str, .str _ => some true
  | .list, .lst _ _ => some true
  | .tuple, .tup _ => some true
  | _, .non => some false | _, .bl _ => some false | _, .int _ => some false | _, .str _ => some false | _, .lst _ _ => some false | _, .tup _ => some false | _, .dct _ _ _ => some false
  | _, _ => none
theorem isA_kit {n : TyN} {d : D} {b : Bool} (h : d.isA n = some b) : ∃ s, d.tyS = some s ∧ kitB s n.nm = some b := by
  cases n <;> cases d <;> simp only [D.isA, Option.some.injEq, reduceCtorEq] at h <;> subst h <;> exact ⟨_, rfl, by decide +kernel⟩
theorem VR.tyx {K : Frag} {H : Hp} {v : V} {d : D} {s : String} (h : VR K G H v d) (e : d.tyS = some s) : TyX K H v (.type s) := by
  cases d with
  | non => obtain rfl := h.n; cases e; exact .base .non
  | bl b => obtain rfl := h.b; cases e; exact .base (.bl b)
  | int i => obtain rfl := h.i; cases e; exact .base (.int i)
  | str z => obtain rfl := h.s; cases e; exact .base (.str z)
  | lst m ds =>
    cases e
    cases h with
    | d h =>
      cases h with
      | lst0 a g b => exact .base (.frz a)
      | lst1 a g b => exact .base (.frz a)
      | lst2 a b => obtain ⟨o, its, n, h1, h2, _⟩ := a; exact .kList h1 h2
    | l a b => exact .base (.lst a)
  | tup ds =>
    cases e
    obtain ⟨a, xs, rfl, h1, h2⟩ := h.tq
    rcases h1 with (h1 | ⟨o, h1⟩) | ⟨o, its, n, h1, h2, _⟩
    · exact .base (.tup h1)
    · exact .fTuple h1
    · exact .kTuple h1 h2
  | dct m ks ds =>
    cases e
    cases h with
    | d h =>
      cases h with
      | dct0 a g e b => exact .fDict a
      | dct1 a g e b => exact .fDict a
    | k a e b => exact .base (.dK a)
  | _ => cases e
def zIsi (n : TyN) (t : ZT) : ZT := fun ss Q => zN t ss fun r s => match cv s r with
  | some d => match d.isA n with
    | some b => Q (.d (.bl b)) s
    | none => False
  | none => False
theorem z_isi (n : TyN) {p1 : Pos} (he : ZE X G B e t) (hg : Gl X "isinstance") (hm : X.mg "isinstance" = none) (hg2 : Gl X (Str.ofString n.nm)) (hm2 : X.mg (Str.ofString n.nm) = none) (hv2 : bootBuiltins (Str.ofString n.nm) = some (.type n.nm)) (hn2 : Str.ofString n.nm ≠ "__name__") (hd2 : (Str.ofString n.nm == ("__debug__" : Str)) = false)
    (hv : bootBuiltins "isinstance" = some (.builtin "isinstance") := by decide +kernel)
    (hs1 : starEach [e, .Name (Str.ofString n.nm) p1] X.env = (false, eval e X.env) :: starEach [.Name (Str.ofString n.nm) p1] X.env := by rfl) (hs2 : starEach [.Name (Str.ofString n.nm) p1] X.env = (false, eval (.Name (Str.ofString n.nm) p1) X.env) :: starEach [] X.env := by rfl)
    (hpl : (backTo pos (starEach [.Name (Str.ofString n.nm) p1] X.env)).any (·.1) = false := by rfl) :
    ZE X G B (.Call (.Name "isinstance" p) [e, .Name (Str.ofString n.nm) p1] [] pos) (zIsi n t) := by
  obtain ⟨te, pt, z⟩ := z_n he
  refine ⟨_, pe_callB call_isi hg hm hv (pa_cons pt (pa_cons (pe_bltn (v := .ty n.nm) hg2 hm2 hv2 rfl hn2 hd2) pa_nil hs2) hs1) (by decide) (by decide) hs1 hpl, fun σ H ss Q R S hw fin => ?_⟩
  refine z σ H ss _ _ S hw fun v H1 r s1 k1 rr q => ?_
  cases e1 : cv s1 r with
  | none => simp only [e1] at q
  | some d =>
    simp only [e1] at q
    cases e2 : d.isA n with
    | none => simp only [e2] at q
    | some b =>
      simp only [e2] at q
      obtain ⟨s, h1, h2⟩ := isA_kit e2
      exact ⟨v, .ty n.nm, .type s, .type n.nm, b, rfl, .ty _, (cv_vr rr.sem (Kp.refl _) rr e1).tyx h1, kit_ty h2, fin _ H1 _ s1 k1 (.d' rr.sem (.bl b)) q⟩
/-! ## methods that change a list of a name -/
abbrev ZMt := List D → List D → (D → List D → Prop) → Prop
/-- the rule of a method: content, arguments; result, content behind it -/
def MtZ (X : Cx) (id : String) (z : ZMt) : Prop := ∃ r, MtR X id r ∧ ∀ (G : Addr → Prop) (H : Hp) (l : Addr) (xs vs : List V) (ds es : List D) (Q : D → List D → Prop) (R : VK), H l = some (.lst xs) → DRs X.K G H xs ds → DRs X.K G H vs es → z ds es Q →
  (∀ v d xs' ds', DR X.K G H v d → DRs X.K G H xs' ds' → Q d ds' → R v (upd H l (.lst xs'))) → r (.ref l) vs H R
def zMet (z : ZMt) (i : Nat) (ts : ZTDs) : ZT := fun ss Q => match ss[i]? with
  | some (some (.lst _)) => ts ss fun es s => match s[i]? with
    | some (some (.lst ds)) => z ds es fun d ds' => fc (s.set i (some (.lst ds'))) fun s' => Q (.d d) s'
    | _ => False
  | _ => False
theorem z_met (i : Nat) {x name : Str} {id : String} {z : ZMt} {ts : ZTDs} {np : Pos} (hz : MtZ X id z) (pa : PlainAttrs "list") (slot : Slot "list" name id) (hty : typeOf (.builtin id) = pure (.type "method_descriptor")) (ha : ZDs X G B (e :: es) ts)
    (hN : X.N[i]? = some x := by rfl) (hv : Vis X.env.scope x := by first | exact Or.inl rfl | exact Or.inr (Or.inl rfl) | exact Or.inr (Or.inr rfl)) (hd : (x == ("__debug__" : Str)) = false := by decide) (hcd : (x == ("__classdict__" : Str)) = false := by decide)
    (hbase : attributeBase (.Name x np) name X.env (eval (.Name x np) X.env) = eval (.Name x np) X.env := by rfl)
    (hfew : ((backTo cpos (starEach (e :: es) X.env)).all (fun x => !x.1) && (backToKw cpos (keywordEach [] X.env)).all (fun x => x.1.isSome)
      && decide ((e :: es).length + ([] : List Keyword).length + (if ([] : List Keyword).isEmpty then 0 else 1) < 30)) = true := by rfl)
    (hline : (apos.endLine == cpos.line) = true := by rfl) (hs : starEach (e :: es) X.env = (false, eval e X.env) :: starEach es X.env := by rfl) (hplain : (backTo cpos (starEach es X.env)).any (·.1) = false := by rfl) :
    ZE X G B (.Call (.Attribute (.Name x np) name apos) (e :: es) [] cpos) (zMet z i ts) := by
  obtain ⟨r, h1, h2⟩ := hz
  obtain ⟨te, pt, rz⟩ := ha
  refine ⟨_, pe_bm pa slot hty h1 (pe_var hN hv hd hcd) pt hbase hfew hline hs hplain, fun σ H ss Q R S hw fin => ?_⟩
  unfold zMet at hw
  cases es1 : ss[i]? with
  | none => simp only [es1] at hw
  | some oo =>
    cases oo with
    | none => simp only [es1] at hw
    | some oc =>
      cases oc with
      | lst ds0 =>
        simp only [es1] at hw
        obtain ⟨a0, xs0, hv0, ha0, rs0⟩ := S.list es1
        refine ⟨.ref a0, hv0, Or.inl ⟨rfl, xs0, SqL.of ha0⟩, ?_⟩
        refine rz σ H ss _ _ S hw fun vs H1 ds1 s1 k1 S1 rs1 q => ?_
        cases es2 : s1[i]? with
        | none => simp only [es2] at q
        | some oo =>
          cases oo with
          | none => simp only [es2] at q
          | some oc =>
            cases oc with
            | lst ds =>
              simp only [es2] at q
              obtain ⟨a, xs, hva, haa, rsa, up⟩ := S1.wr es2
              rw [hv0] at hva; cases hva
              refine h2 G H1 a0 xs vs ds ds1 _ _ haa rsa rs1 q fun v d xs' ds' rd rds q2 => ?_
              have kk : Kp H1 (upd H1 a0 (.lst xs')) := Kp.upd haa trivial
              exact fin v _ (.d d) _ (k1.trans kk) (.d' (up xs' ds' rds) (rd.kp kk)) ((fc_iff _ _).mp q2)
            | _ => simp only [es2] at q
      | _ => simp only [es1] at hw
theorem z_met0 (i : Nat) {x name : Str} {id : String} {z : ZMt} {np : Pos} (hz : MtZ X id z) (pa : PlainAttrs "list") (slot : Slot "list" name id) (hty : typeOf (.builtin id) = pure (.type "method_descriptor"))
    (hN : X.N[i]? = some x := by rfl) (hv : Vis X.env.scope x := by first | exact Or.inl rfl | exact Or.inr (Or.inl rfl) | exact Or.inr (Or.inr rfl)) (hd : (x == ("__debug__" : Str)) = false := by decide) (hcd : (x == ("__classdict__" : Str)) = false := by decide)
    (hbase : attributeBase (.Name x np) name X.env (eval (.Name x np) X.env) = eval (.Name x np) X.env := by rfl) (hline : (apos.endLine == cpos.line) = true := by rfl) :
    ZE X G B (.Call (.Attribute (.Name x np) name apos) [] [] cpos) (zMet z i zdNil) := by
  obtain ⟨r, h1, h2⟩ := hz
  refine ⟨_, pe_bm0 pa slot hty h1 (pe_var hN hv hd hcd) hbase hline, fun σ H ss Q R S hw fin => ?_⟩
  unfold zMet at hw
  cases es1 : ss[i]? with
  | none => simp only [es1] at hw
  | some oo =>
    cases oo with
    | none => simp only [es1] at hw
    | some oc =>
      cases oc with
      | lst ds0 =>
        simp only [es1] at hw
        obtain ⟨a0, xs0, hv0, ha0, rs0, up⟩ := S.wr es1
        refine ⟨.ref a0, hv0, Or.inl ⟨rfl, xs0, SqL.of ha0⟩, ?_⟩
        have q : z ds0 [] fun d ds' => fc (ss.set i (some (.lst ds'))) fun s' => Q (.d d) s' := by
          have : zdNil ss fun es s => (match s[i]? with
            | some (some (.lst ds)) => z ds es fun d ds' => fc (s.set i (some (.lst ds'))) fun s' => Q (.d d) s'
            | _ => False) := hw
          unfold zdNil at this
          simp only [es1] at this
          exact this
        refine h2 G H a0 xs0 [] ds0 [] _ _ ha0 rs0 .nil q fun v d xs' ds' rd rds q2 => ?_
        have kk : Kp H (upd H a0 (.lst xs')) := Kp.upd ha0 trivial
        exact fin v _ (.d d) _ kk (.d' (up xs' ds' rds) (rd.kp kk)) ((fc_iff _ _).mp q2)
      | _ => simp only [es1] at hw
def zAppendC : ZMt := fun ds es Q => match es with
  | [d] => Sd (ds.length < sizeLine) ∧ Q .non (ds ++ [d])
  | _ => False
theorem mz_append : MtZ X "list.append" zAppendC := by
  refine ⟨_, mt_append, fun G H l xs vs ds es Q R hl rx rv q fin => ?_⟩
  match es, rv, q with
  | [d], .cons r .nil, q => exact ⟨l, xs, _, rfl, rfl, hl, by rw [rx.length]; exact q.1.h, fin _ _ _ _ .non (rx.append (.cons r .nil)) q.2⟩
theorem DRs.dropLast {K : Frag} {H : Hp} {ds : List D} {vs : List V} (h : DRs K G H vs ds) : DRs K G H vs.dropLast ds.dropLast := by
  rw [List.dropLast_eq_take, List.dropLast_eq_take, h.length]; exact h.take _
theorem DRs.eraseIdx {K : Frag} {H : Hp} : ∀ {ds : List D} {vs : List V} (n : Nat), DRs K G H vs ds → DRs K G H (vs.eraseIdx n) (ds.eraseIdx n)
  | [], _, _, h => by cases h; exact .nil
  | d :: ds, _, 0, h => by cases h with | cons a b => exact b
  | d :: ds, _, n + 1, h => by cases h with | cons a b => exact .cons a (DRs.eraseIdx n b)
theorem DRs.reverse {K : Frag} {H : Hp} : ∀ {ds : List D} {vs : List V}, DRs K G H vs ds → DRs K G H vs.reverse ds.reverse
  | [], _, h => by cases h; exact .nil
  | d :: ds, _, h => by
    cases h with | cons a b =>
    rw [List.reverse_cons, List.reverse_cons]
    exact (DRs.reverse b).append (.cons a .nil)
def zPopC : ZMt := fun ds es Q => match es with
  | [] => ∃ d, ds[ds.length - 1]? = some d ∧ Q d ds.dropLast
  | [.int i] => Sd (-(2 ^ 63) ≤ i ∧ i < 2 ^ 63) ∧ ∃ (k : Nat) (d : D), Sd (seqIndex? i ds.length = some k) ∧ ds[k]? = some d ∧ Q d (ds.eraseIdx k)
  | _ => False
theorem mz_pop : MtZ X "list.pop" zPopC := by
  refine ⟨_, MtR.or (X := X) mt_pop mt_popAt, fun G H l xs vs ds es Q R hl rx rv q fin => ?_⟩
  match es, rv, q with
  | [], .nil, q =>
    obtain ⟨d, h1, q⟩ := q
    obtain ⟨v, h2, rd⟩ := rx.get h1
    exact .inl ⟨l, xs, v, rfl, rfl, hl, by rw [rx.length]; exact h2, fin _ _ _ _ rd rx.dropLast q⟩
  | [.int i], .cons r .nil, q =>
    cases r
    obtain ⟨h0, k, d, hk, h1, q⟩ := q
    obtain ⟨v, h2, rd⟩ := rx.get h1
    exact .inr ⟨l, xs, i, k, v, rfl, rfl, hl, h0.h.1, h0.h.2, by rw [rx.length]; exact hk.h, h2, fin _ _ _ _ rd (rx.eraseIdx k) q⟩
def zRevC : ZMt := fun ds es Q => match es with
  | [] => Q .non ds.reverse
  | _ => False
theorem mz_reverse : MtZ X "list.reverse" zRevC := by
  refine ⟨_, mt_reverse, fun G H l xs vs ds es Q R hl rx rv q fin => ?_⟩
  match es, rv, q with
  | [], .nil, q => exact ⟨l, xs, rfl, rfl, hl, fin _ _ _ _ .non rx.reverse q⟩
def zClrC : ZMt := fun ds es Q => match es with
  | [] => Q .non []
  | _ => False
theorem mz_clear : MtZ X "list.clear" zClrC := by
  refine ⟨_, mt_clear, fun G H l xs vs ds es Q R hl rx rv q fin => ?_⟩
  match es, rv, q with
  | [], .nil, q => exact ⟨l, xs, rfl, rfl, hl, fin _ _ _ _ .non .nil q⟩
/-! ## in -/
def D.flat : D → Bool
  | .non => true | .bl _ => true | .int _ => true | .str _ => true
  | _ => false
theorem flat_v {K : Frag} {H : Hp} {v : V} {d : D} (h : VR K G H v d) (f : d.flat = true) : flatV v = true := by
  cases d with
  | non => obtain rfl := h.n; rfl
  | bl b => obtain rfl := h.b; rfl
  | int b => obtain rfl := h.i; rfl
  | str b => obtain rfl := h.s; rfl
  | _ => cases f
theorem eqV_eq {K : Frag} {H : Hp} {v w : V} {d e : D} (h : VR K G H v d) (h2 : VR K G H w e) (f : d.flat = true) (f2 : e.flat = true) : eqV v w = D.eq d e := by
  cases d with
  | non => obtain rfl := h.n; cases e with
    | non => obtain rfl := h2.n; rfl
    | bl b => obtain rfl := h2.b; rfl
    | int b => obtain rfl := h2.i; rfl
    | str b => obtain rfl := h2.s; rfl
    | _ => cases f2
  | bl b => obtain rfl := h.b; cases e with
    | non => obtain rfl := h2.n; rfl
    | bl b => obtain rfl := h2.b; rfl
    | int b => obtain rfl := h2.i; rfl
    | str b => obtain rfl := h2.s; rfl
    | _ => cases f2
  | int b => obtain rfl := h.i; cases e with
    | non => obtain rfl := h2.n; rfl
    | bl b => obtain rfl := h2.b; rfl
    | int b => obtain rfl := h2.i; simp [eqV, D.eq, Bool.beq_eq_decide_eq]
    | str b => obtain rfl := h2.s; rfl
    | _ => cases f2
  | str b => obtain rfl := h.s; cases e with
    | non => obtain rfl := h2.n; rfl
    | bl b => obtain rfl := h2.b; rfl
    | int b => obtain rfl := h2.i; rfl
    | str b => obtain rfl := h2.s; simp [eqV, D.eq, Bool.beq_eq_decide_eq]
    | _ => cases f2
  | _ => cases f
theorem inV_eq {K : Frag} {H : Hp} {x : V} {d : D} (hx : VR K G H x d) (fx : d.flat = true) : ∀ {ds : List D} {vs : List V}, DRs K G H vs ds → ds.all D.flat = true → vs.all flatV = true ∧ inV x vs = ds.any fun y => D.eq y d
  | [], _, h, _ => by cases h; exact ⟨rfl, rfl⟩
  | e :: ds, _, h, f => by
    rw [List.all_cons, Bool.and_eq_true] at f
    cases h with
    | cons a b =>
      obtain ⟨h1, h2⟩ := inV_eq hx fx b f.2
      refine ⟨by rw [List.all_cons, flat_v (.d a) f.1, h1]; rfl, ?_⟩
      unfold inV at h2 ⊢
      rw [List.any_cons, List.any_cons, h2, eqV_eq (.d a) hx f.1 fx]
def zInC (neg : Bool) : Z2 := fun x y Q => match y with
  | .lst _ ds => Sd (x.flat = true ∧ ds.all D.flat = true) ∧ match neg with
    | true => Q (.d (.bl (!(ds.any fun y => D.eq y x))))
    | false => Q (.d (.bl (ds.any fun y => D.eq y x)))
  | .tup ds => Sd (x.flat = true ∧ ds.all D.flat = true) ∧ match neg with
    | true => Q (.d (.bl (!(ds.any fun y => D.eq y x))))
    | false => Q (.d (.bl (ds.any fun y => D.eq y x)))
  | .str z => ∃ (c : Nat), x = .str ⟨#[c]⟩ ∧ match neg with
    | true => Q (.d (.bl (!decide (c ∈ z.cps.toList))))
    | false => Q (.d (.bl (decide (c ∈ z.cps.toList))))
  | _ => False
theorem oz_in : OpZ X (compareOp .In) (zInC false) := by
  refine ⟨_, op_in_seq.or op_in_sign, fun G H x y dx dy Q R hx hy q fin => ?_⟩
  unfold zInC at q
  cases dy with
  | lst m ds =>
    obtain ⟨⟨h1, h2⟩, q⟩ := q
    obtain ⟨a, xs, rfl, hq, r⟩ := hy.sq
    obtain ⟨f1, f2⟩ := inV_eq hx h1 r h2
    exact .inl ⟨a, xs, rfl, .inl hq, flat_v hx h1, f1, by rw [f2]; exact fin _ H _ (rs_d (.bl _)) q⟩
  | tup ds =>
    obtain ⟨⟨h1, h2⟩, q⟩ := q
    obtain ⟨a, xs, rfl, hq, r⟩ := hy.tq
    obtain ⟨f1, f2⟩ := inV_eq hx h1 r h2
    exact .inl ⟨a, xs, rfl, .inr hq, flat_v hx h1, f1, by rw [f2]; exact fin _ H _ (rs_d (.bl _)) q⟩
  | str z =>
    obtain ⟨c, rfl, q⟩ := q
    obtain rfl := hx.s
    obtain rfl := hy.s
    exact .inr ⟨c, z, rfl, rfl, fin _ H _ (rs_d (.bl _)) q⟩
  | _ => exact q.elim
theorem oz_notin : OpZ X (compareOp .NotIn) (zInC true) := by
  refine ⟨_, op_notIn_seq.or op_notIn_sign, fun G H x y dx dy Q R hx hy q fin => ?_⟩
  unfold zInC at q
  cases dy with
  | lst m ds =>
    obtain ⟨⟨h1, h2⟩, q⟩ := q
    obtain ⟨a, xs, rfl, hq, r⟩ := hy.sq
    obtain ⟨f1, f2⟩ := inV_eq hx h1 r h2
    exact .inl ⟨a, xs, rfl, .inl hq, flat_v hx h1, f1, by rw [f2]; exact fin _ H _ (rs_d (.bl _)) q⟩
  | tup ds =>
    obtain ⟨⟨h1, h2⟩, q⟩ := q
    obtain ⟨a, xs, rfl, hq, r⟩ := hy.tq
    obtain ⟨f1, f2⟩ := inV_eq hx h1 r h2
    exact .inl ⟨a, xs, rfl, .inr hq, flat_v hx h1, f1, by rw [f2]; exact fin _ H _ (rs_d (.bl _)) q⟩
  | str z =>
    obtain ⟨c, rfl, q⟩ := q
    obtain rfl := hx.s
    obtain rfl := hy.s
    exact .inr ⟨c, z, rfl, rfl, fin _ H _ (rs_d (.bl _)) q⟩
  | _ => exact q.elim
/-! ## xs[::-1] -/
def zRevS (t : ZT) : ZT := fun ss Q => zN t ss fun r s => match cv s r with
  | some (.lst _ xs) => Q (.new (.lst xs.reverse)) s
  | _ => False
theorem z_revS {kk : Nat} {p1 p2 p3 : Pos} (he : ZE X G B e t) : ZE X G B (.Subscript e (.Slice none none (some (.UnaryOp .USub (.Constant (.int 1) kk p1) p2)) p3) pos) (zRevS t) := by
  obtain ⟨te, pt, z⟩ := z_n he
  refine ⟨_, pe_revL pt, fun σ H ss Q R S hw fin => ?_⟩
  refine z σ H ss _ _ S hw fun v H1 r s1 k1 rr q => ?_
  cases e1 : cv s1 r with
  | none => simp only [e1] at q
  | some d =>
    cases d with
    | lst m xs =>
      simp only [e1] at q
      obtain ⟨a, ws, rfl, hq, rs⟩ := (cv_vr rr.sem (Kp.refl _) rr e1).sq
      refine ⟨a, ws, rfl, hq, fun p np => ?_⟩
      have rn := rs_new (X := X) np rs.reverse
      exact fin _ _ _ s1 (k1.trans (Kp.of rn.same)) (rn.rr rr.sem) q
    | _ => simp only [e1] at q
/-! ## -x -/
def zNeg (t : ZT) : ZT := fun ss Q => t ss fun r s => match r with
  | .d (.int i) => Q (.d (.int (-i))) s
  | _ => False
theorem z_neg (he : ZE X G B e t) : ZE X G B (.UnaryOp .USub e pos) (zNeg t) := by
  obtain ⟨te, pt, z⟩ := he
  refine ⟨_, pe_un un_neg pt, fun σ H ss Q R S hw fin => ?_⟩
  refine z σ H ss _ _ S hw fun v H1 r s1 k1 rr q => ?_
  cases r with
  | d x =>
    cases x with
    | int i =>
      obtain ⟨S1, r⟩ := rr
      cases r
      exact ⟨i, rfl, fin _ H1 _ s1 k1 (.d' S1 (.int _)) q⟩
    | _ => exact q.elim
  | _ => exact q.elim
/-! ## a op b op' c -/
def zChain (z z' : Z2) (ta tb tc : ZT) : ZT := fun ss Q => ta ss fun ra s1 => tb s1 fun rb s2 => match cv s2 ra, cv s2 rb with
  | some x, some y => z x y fun r => match r with
    | .d (.bl b) => Br b (tc s2 fun rc s3 => match cv s3 rb, cv s3 rc with
        | some y', some w => z' y' w fun r => Q r s3
        | _, _ => False) (Q (.d (.bl false)) s2)
    | _ => False
  | _, _ => False
theorem chain_zr {K : Frag} {tea teb tec : TE} {r r' : R2} {z z' : Z2} {tc : ZT} (ha : Zr K G B tea ta) (hb : Zr K G B teb tb) (hc : Zr K G B tec tc)
    (hr : ∀ (G : Addr → Prop) (H : Hp) (x y : V) (dx dy : D) (Q : RV → Prop) (R : VK), VR K G H x dx → VR K G H y dy → z dx dy Q → (∀ v H' rv, RS K G H H' v rv → Q rv → R v H') → r x y H R)
    (hr' : ∀ (G : Addr → Prop) (H : Hp) (x y : V) (dx dy : D) (Q : RV → Prop) (R : VK), VR K G H x dx → VR K G H y dy → z' dx dy Q → (∀ v H' rv, RS K G H H' v rv → Q rv → R v H') → r' x y H R) : Zr K G B (tChain r r' tea teb tec) (zChain z z' ta tb tc) := by
  intro σ H ss Q R S hw fin
  refine ha σ H ss _ _ S hw fun v H1 ra s1 k1 rr1 q1 => ?_
  refine hb σ H1 s1 _ _ rr1.sem q1 fun w H2 rb s2 k2 rr2 q2 => ?_
  cases ea : cv s2 ra with
  | none => simp only [ea] at q2
  | some x =>
    cases eb : cv s2 rb with
    | none => simp only [ea, eb] at q2
    | some y =>
      simp only [ea, eb] at q2
      refine hr G H2 v w x y _ _ (cv_vr rr2.sem k2 rr1 ea) (cv_vr rr2.sem (Kp.refl _) rr2 eb) q2 fun u H3 rv rs q3 => ?_
      cases rv with
      | d b0 =>
        cases b0 with
        | bl b =>
          obtain ⟨sm, rb0⟩ := rs
          cases rb0
          have S3 := rr2.sem.same sm
          refine ⟨b, rfl, ?_⟩
          cases b with
          | false => rw [if_neg Bool.false_ne_true]; exact fin _ H3 _ s2 ((k1.trans k2).trans (Kp.of sm)) (.d' S3 (.bl false)) (q3.f rfl)
          | true =>
            rw [if_pos rfl]
            refine hc σ H3 s2 _ _ S3 (q3.t rfl) fun w' H4 rc s4 k4 rr4 q4 => ?_
            cases ey : cv s4 rb with
            | none => simp only [ey] at q4
            | some y' =>
              cases ew : cv s4 rc with
              | none => simp only [ey, ew] at q4
              | some ww =>
                simp only [ey, ew] at q4
                refine hr' G H4 w w' y' ww _ _ (cv_vr rr4.sem ((Kp.of sm).trans k4) rr2 ey) (cv_vr rr4.sem (Kp.refl _) rr4 ew) q4 fun u5 H5 rv5 rs5 q5 => ?_
                exact fin u5 H5 rv5 s4 ((((k1.trans k2).trans (Kp.of sm)).trans k4).trans (Kp.of rs5.same)) (rs5.rr rr4.sem) q5
        | _ => exact q3.elim
      | _ => exact q3.elim
theorem z_chain {c : Expr} {op op' : CmpOp} {z z' : Z2} {tc : ZT} (ho : OpZ X (compareOp op) z) (ho' : OpZ X (compareOp op') z') (ha : ZE X G B a ta) (hb : ZE X G B b tb) (hc : ZE X G B c tc) (hm : lastMarks [op, op'] [b, c] = false := by with_unfolding_all rfl) :
    ZE X G B (.Compare a [op, op'] [b, c] pos) (zChain z z' ta tb tc) := by
  obtain ⟨r, h1, h2⟩ := ho
  obtain ⟨r', h1', h2'⟩ := ho'
  obtain ⟨tea, pa, za⟩ := ha
  obtain ⟨teb, pb, zb⟩ := hb
  obtain ⟨tec, pc, zc⟩ := hc
  exact ⟨_, pe_chain h1 h1' pa pb pc hm, chain_zr za zb zc h2 h2'⟩
theorem t_chain {c : Expr} {op op' : CmpOp} {z z' : Z2} {tc : ZT} (ho : OpZ X (compareOp op) z) (ho' : OpZ X (compareOp op') z') (ha : ZE X G B a ta) (hb : ZE X G B b tb) (hc : ZE X G B c tc) (hm : lastMarks [op, op'] [b, c] = false := by with_unfolding_all rfl) :
    ZB X G B (.Compare a [op, op'] [b, c] pos) (zT (zChain z z' ta tb tc)) := by
  obtain ⟨r, h1, h2⟩ := ho
  obtain ⟨r', h1', h2'⟩ := ho'
  obtain ⟨tea, pa, za⟩ := ha
  obtain ⟨teb, pb, zb⟩ := hb
  obtain ⟨tec, pc, zc⟩ := hc
  exact ⟨_, pt_chain h1 h1' pa pb pc hm, zt_of (chain_zr za zb zc h2 h2')⟩
end

theorem Br.lT {b : Bool} {A C : Prop} (e : b = true) (h : A) : Br b A C := by subst e; exact Br.T h
theorem Br.lF {b : Bool} {A C : Prop} (e : b = false) (h : C) : Br b A C := by subst e; exact Br.F h
theorem Br.nT {A C : Prop} (h : A) : Br (!false) A C := Br.T h
theorem Br.nF {A C : Prop} (h : C) : Br (!true) A C := Br.F h
/-! ## numbers -/
theorem log2_of {i : Int} {n : Nat} (a : 0 ≤ i) (b : i < 2 ^ n) : i.natAbs.log2 ≤ n := by
  have e : i.natAbs < 2 ^ n := by
    have : ((i.natAbs : Nat) : Int) = i := Int.natAbs_of_nonneg a
    have h2 : (((2 : Nat) ^ n : Nat) : Int) = (2 : Int) ^ n := by simp
    omega
  by_cases z : i.natAbs = 0
  · rw [z]; exact Nat.zero_le _
  · exact Nat.le_of_lt ((Nat.log2_lt z).mpr e)
theorem mulW {i j : Int} (n m : Nat) (a : 0 ≤ i) (b : i < 2 ^ n) (c : 0 ≤ j) (d : j < 2 ^ m) (h : n + m < 1000000 := by decide) : CMulW i j := by
  have h1 := log2_of a b
  have h2 := log2_of c d
  refine .inl ?_; unfold L2.CMulW; omega
theorem mul_lt {i j : Int} (n m : Nat) (a : 0 ≤ i) (b : i < 2 ^ n) (c : 0 ≤ j) (d : j < 2 ^ m) : 0 ≤ i * j ∧ i * j < 2 ^ (n + m) := by
  refine ⟨Int.mul_nonneg a c, ?_⟩
  rw [Int.pow_add]
  exact Int.lt_of_le_of_lt (Int.mul_le_mul_of_nonneg_left (Int.le_of_lt d) a) (Int.mul_lt_mul_of_pos_right b (Int.pow_pos (by decide)))
theorem divW {j : Int} {i : Int} (h : 0 < j) (h2 : j < 2 ^ 8000) : CDivW i j := ⟨h, Nat.lt_of_le_of_lt (log2_of (by omega) h2) (by decide)⟩
theorem mulB {i j : Int} (a : i.natAbs < 2 ^ 100) (b : j.natAbs < 2 ^ 100) : CMulW i j := by
  have h : ∀ n : Nat, n < 2 ^ 100 → n.log2 ≤ 100 := fun n e => by
    by_cases z : n = 0
    · rw [z]; exact Nat.zero_le _
    · exact Nat.le_of_lt ((Nat.log2_lt z).mpr e)
  have h1 := h _ a
  have h2 := h _ b
  refine .inl ?_; unfold L2.CMulW; omega
theorem ixN_in {n : Nat} {i : Int} (h0 : 0 ≤ i) (h1 : i < n) : ixN n i = some i.toNat := by unfold ixN; rw [if_pos h0, if_pos h1]
theorem atI_in {α : Type} {xs : List α} {i : Int} (h0 : 0 ≤ i) (h1 : i < xs.length) : ∃ h : i.toNat < xs.length, atI xs i = some (xs[i.toNat]) := by
  have : i.toNat < xs.length := by omega
  refine ⟨this, ?_⟩
  unfold atI; rw [ixN_in h0 h1]
  exact List.getElem?_eq_getElem this
theorem at_int {ns : List Int} {i : Int} (h0 : 0 ≤ i) (h1 : i < ns.length) : ∃ v, atI (ns.map D.int) i = some (D.int v) := by
  obtain ⟨h, e⟩ := atI_in (xs := ns.map D.int) h0 (by rw [List.length_map]; exact h1)
  exact ⟨ns[i.toNat]'(by rw [List.length_map] at h; exact h), by rw [e]; simp⟩
theorem pow_le2 {n m : Nat} (h : n ≤ m) : (2 : Int) ^ n ≤ 2 ^ m := by
  have h2 : ((2 ^ n : Nat) : Int) ≤ ((2 ^ m : Nat) : Int) := Int.ofNat_le.mpr (Nat.pow_le_pow_right (by decide) h)
  simpa using h2
theorem divS {i j : Int} (h : 0 < j) (h2 : j < 2 ^ 64) : CDivW i j := divW h (Int.lt_of_lt_of_le h2 (pow_le2 (by decide)))
/-! ## lists of whole numbers -/
theorem eqs_ints : ∀ ns ms : List Int, D.eqs (ns.map D.int) (ms.map D.int) = decide (ns = ms)
  | [], [] => rfl
  | [], _ :: _ => rfl
  | _ :: _, [] => rfl
  | n :: ns, m :: ms => by
    show (decide (n = m) && D.eqs (ns.map D.int) (ms.map D.int)) = _
    rw [eqs_ints ns ms]
    simp
theorem pls_ints (k : Nat) : ∀ ns : List Int, D.pls k (ns.map D.int) = true
  | [] => by cases k <;> rfl
  | n :: ns => by
    show (D.pl k (.int n) && D.pls k (ns.map D.int)) = true
    rw [pls_ints k ns]; cases k <;> rfl
theorem cut_map {α β : Type} (f : α → β) (l : List α) (lo hi : Option Int) : cutD (l.map f) lo hi = (cutD l lo hi).map f := by
  unfold cutD; rw [List.length_map, List.map_take, List.map_drop]
theorem cut_lo {α : Type} (l : List α) (k : Nat) : cutD l (some (k : Int)) none = l.drop k := by
  unfold cutD
  rw [HT.sIx_nat, HT.sIx_none]
  rw [List.take_of_length_le (by rw [List.length_drop]; omega)]
  by_cases h : k ≤ l.length
  · rw [Nat.min_eq_left h]
  · rw [Nat.min_eq_right (by omega), List.drop_length, List.drop_eq_nil_of_le (by omega)]
theorem cut_hi {α : Type} (l : List α) (k : Nat) : cutD l none (some (k : Int)) = l.take k := by
  unfold cutD
  rw [HT.sIx_nat, HT.sIx_none, List.drop_zero, Nat.sub_zero]
  by_cases h : k ≤ l.length
  · rw [Nat.min_eq_left h]
  · rw [Nat.min_eq_right (by omega), List.take_length, List.take_of_length_le (by omega)]
theorem cut_len {α : Type} (l : List α) (lo hi : Option Int) : (cutD l lo hi).length ≤ l.length := by
  unfold cutD; rw [List.length_take, List.length_drop]; omega
theorem cut_mem {α : Type} {l : List α} {lo hi : Option Int} {x : α} (h : x ∈ cutD l lo hi) : x ∈ l := List.mem_of_mem_drop (List.mem_of_mem_take h)
/-! ## the head of a law, the defs of the top -/
structure DefAt (K : Frag) (mg : Str → Option Value) (x : Str) (st : Stmt) (ps : List Str) (f : Addr) (fd : FuncData) : Prop where
  F : Fun K x x st f fd
  m : mg x = some (.ref f)
  b : Binds K fd ps []
  bt : ∀ (s : Shared) (us : List Value), us.length = ps.length → BindsTo s fd ⟨us, []⟩ (ps.zip us)
theorem def_at {K : Frag} {h : Heap} {mg : Str → Option Value} {x : Str} {st : Stmt} {ps : List Str} {f : Addr} {oc : Value} {od an : Option Addr} {osl : Array (Option Value)} {kV doc pm cdv ct : Value} (X : K.In h) (G : h.Ns mainGlobals mg)
    (hb : ∀ (kV doc pm : Value) (an : Option Addr) (cdv ct : Value) (us : List Value), us.length = ps.length → bindArgs (PySem.W.fnOf x x (defArgs st) (defBody st) (defScope st) .none kV doc pm an cdv ct) ⟨us, []⟩ = pure (ps.zip us))
    (a : PySem.W.nsIn K mainGlobals x = some (some (.ref f))) (l : K.lookup f = some ⟨oc, od, .func (PySem.W.fnOf x x (defArgs st) (defBody st) (defScope st) .none kV doc pm an cdv ct), osl⟩)
    (c : PySem.W.codeIn K cdv x = true) (k : PySem.W.keepIn K (.ref f) = true) : ∃ f fd, DefAt K mg x st ps f fd :=
  ⟨f, _, fun_mk l c k, PySem.W.mg_of X G a, (fun_mk (st := st) l c k).binds hb, fun s us e => .of_eq (hb _ _ _ _ _ _ us e)⟩
theorem ints_DR {K : Frag} {G : Addr → Prop} {H : Hp} : ∀ ns : List Int, DRs K G H (ns.map V.int) (ns.map D.int)
  | [] => .nil
  | n :: ns => .cons (.int n) (ints_DR ns)
theorem law_sp {K : Frag} {fs : FS} {H : Hp} {a : Addr} {ns : List Int} (h : ∀ m : Nat, m = 0 ∨ m = 2 → ∀ Q E, Q (.d (.bl true)) → fs [.lst m (ns.map .int)] Q E) (hO : Only H) (hS : SqL K H a (ns.map V.int)) :
    toSp K fs [.ref a] H (fun v _ => v = .bl true) fun _ _ _ => False := by
  have key : ∃ m : Nat, (m = 0 ∨ m = 2) ∧ DR K (fun _ => False) H (.ref a) (.lst m (ns.map .int)) := by
    rcases hS with (q | ⟨o, q⟩) | q
    · rcases hO a with e | ⟨o, xs, e⟩ <;> rw [q] at e <;> cases e
    · exact ⟨0, .inl rfl, .lst0 q (fun z => z) (ints_DR ns)⟩
    · exact ⟨2, .inr rfl, .lst2 q (ints_DR ns)⟩
  obtain ⟨m, hm, r⟩ := key
  refine ⟨fun _ => False, [.lst m (ns.map .int)], fun r => r = .d (.bl true), fun _ _ _ => False, fun _ z => z.elim, .cons r .nil, h m hm _ _ rfl, fun v H' r rr e => ?_, fun _ _ _ _ _ _ _ _ z => z⟩
  subst e
  cases rr.2; rfl
theorem law_cx {P : Program} {w : World} {H : Hp} {s s' : Shared} {e : Value} (h : L2.CX P w [] H s (fun _ _ _ => False) e s') : False := by
  obtain ⟨_, _, _, _, _, _, _, _, _, _, _, _, h⟩ := h
  exact h

/-! ## a comprehension over a name: what the name owns stays its own -/
def zLcLO (v0 : Nat) (all : List D) (g : ZG1) (tt : ZTB) (t : ZT) (vs : List Nat) (Q : List D → SS → Prop) : List D → List D → SS → Prop
  | [], acc, ss => Sd (ss[v0]? = some (some (.lst all))) ∧ Q acc ss
  | x :: xs, acc, ss => Sd (ss[v0]? = some (some (.lst all))) ∧ g x ss fun s2 => tt s2 fun b s3 => Br b (zF t s3 fun y s4 => Sd (acc.length < sizeLine) ∧ fc (wipS s4 vs) fun s5 => zLcLO v0 all g tt t vs Q xs (acc ++ [y]) s5) (fc (wipS s3 vs) fun s5 => zLcLO v0 all g tt t vs Q xs acc s5)
def zLcV (v0 : Nat) (g : ZG1) (tt : ZTB) (t : ZT) (vs : List Nat) : ZT := fun ss Q => match ss[v0]? with
  | some (some (.lst xs)) => Sd (vs.contains v0 = false) ∧ fc (wipS ss vs) fun s5 => zLcLO v0 xs g tt t vs (fun acc s' => Q (.new (.lst acc)) s') xs [] s5
  | some (some (.pure (.lst _ xs))) => fc (wipS ss vs) fun s5 => zLcL g tt t vs (fun acc s' => Q (.new (.lst acc)) s') xs [] s5
  | some (some (.pure (.tup xs))) => fc (wipS ss vs) fun s5 => zLcL g tt t vs (fun acc s' => Q (.new (.lst acc)) s') xs [] s5
  | some (some (.pure (.str z))) => fc (wipS ss vs) fun s5 => zLcL g tt t vs (fun acc s' => Q (.new (.lst acc)) s') (z.cps.toList.map fun c => D.str ⟨#[c]⟩) [] s5
  | _ => False
section
variable {X : Cx} {G : Addr → Prop} {B : Hp} {Wz : WZ} {k : Nat} {vs : List Nat} {pos : Pos}
theorem zLcLO.ok {v0 : Nat} {all : List D} {g : ZG1} {tt : ZTB} {t : ZT} {Q : List D → SS → Prop} {xs acc : List D} {ss : SS} (h : zLcLO v0 all g tt t vs Q xs acc ss) : ss[v0]? = some (some (.lst all)) := by
  cases xs with
  | nil => exact h.1.h
  | cons x xs => exact h.1.h
theorem zLcLO.next {v0 : Nat} {all : List D} {g : ZG1} {tt : ZTB} {t : ZT} {Q : List D → SS → Prop} {x : D} {xs acc : List D} {ss : SS} (h : zLcLO v0 all g tt t vs Q (x :: xs) acc ss) : g x ss fun s2 => tt s2 fun b s3 => Br b (zF t s3 fun y s4 => Sd (acc.length < sizeLine) ∧ fc (wipS s4 vs) fun s5 => zLcLO v0 all g tt t vs Q xs (acc ++ [y]) s5) (fc (wipS s3 vs) fun s5 => zLcLO v0 all g tt t vs Q xs acc s5) := h.2
theorem zLcLO.stop {v0 : Nat} {all : List D} {g : ZG1} {tt : ZTB} {t : ZT} {Q : List D → SS → Prop} {acc : List D} {ss : SS} (h : zLcLO v0 all g tt t vs Q [] acc ss) : Q acc ss := h.2
theorem wipe_get {σ : St} {v0 : Nat} : ∀ {vs : List Nat}, vs.contains v0 = false → (wipe σ vs)[v0]? = σ[v0]?
  | [], _ => rfl
  | v :: vs, h => by
    simp only [List.contains_cons, Bool.or_eq_false_iff] at h
    show ((wipe σ vs).set v none)[v0]? = _
    have ne : v ≠ v0 := fun e => by subst e; simp at h
    rw [List.getElem?_set_ne ne]
    exact wipe_get h.2
/-- what the name owns, as it stands in a turn -/
theorem stand {K : Frag} {D : Addr} {σ : St} {v0 : Nat} {a0 : Addr} {items : List Z.D} (hv : vs.contains v0 = false) (ha : σ[v0]? = some (some (.ref a0))) {H1 : Hp} {s1 : SS} (S : Sm K G B [D] (wipe σ vs) H1 s1) (e : s1[v0]? = some (some (.lst items))) :
    (∀ i, i < items.length → (Itl K a0).go i H1 ∧ ∀ x H2, (Itl K a0).yld i H1 x H2 → Same H1 H2 ∧ ∃ d, items[i]? = some d ∧ DR K G H2 x d) ∧ ∀ i, items.length ≤ i → (Itl K a0).stop i H1 := by
  obtain ⟨a, xs, e1, e2, r⟩ := S.list e
  rw [wipe_get hv, ha] at e1
  cases e1
  have hq : SqL K H1 a0 xs := .inl (.inl e2)
  refine ⟨fun i hi => ?_, fun i hi => ⟨xs, hq, by rw [r.length]; exact hi⟩⟩
  have hx : i < xs.length := by rw [r.length]; exact hi
  refine ⟨⟨xs, xs[i], hq, List.getElem?_eq_getElem hx⟩, fun x H2 y => ?_⟩
  obtain ⟨e, y⟩ := y
  subst e
  obtain ⟨d, e1, rd⟩ := r.get' (y xs hq)
  exact ⟨Same.refl _, d, e1, rd⟩
theorem lc_zrO {K : Frag} {v0 : Nat} {all : List Z.D} {a0 : Addr} {g : ZG1} {tt : ZTB} {t : ZT} (σ : St) (H : Hp) (ss : SS) (Q : List D → SS → Prop) (R : VK) (S : Sm K G B [] σ H ss) (hv0 : vs.contains v0 = false) (ha0 : σ[v0]? = some (some (.ref a0))) (hw : zLcLO v0 all g tt t vs Q all [] (wipS ss vs))
    (fin : ∀ v H' acc ss', Kp H H' → RR K G B σ H' ss' v (.new (.lst acc)) → Q acc ss' → R v H') : ∀ D, H D = none → ∃ W : Nat → Nat → Hp → Prop, (∃ m, W 0 m (upd H D (.lst []))) ∧ ∀ i m H, W i m H →
  ((Itl K a0).stop i H ∧ R (.ref D) H) ∨ ((Itl K a0).go i H ∧ ∃ Nx : Hp → Prop, (∀ H', Nx H' → ∃ m', m' < m ∧ W (i + 1) m' H') ∧ ∀ x H', (Itl K a0).yld i H x H' → tgOf K G vs g x (wipe σ vs) H' fun σ2 H2 => wipe σ2 vs = wipe σ vs ∧ ttOf K G tt σ2 H2 fun b H3 =>
    if b = true then tFz (teOf K G t) σ2 H3 fun y H4 => ∃ acc, H4 D = some (.lst acc) ∧ acc.length < sizeLine ∧ Nx (upd H4 D (.lst (acc ++ [y]))) else Nx H3) := by
  intro D nD
  obtain ⟨H0, eH0⟩ : ∃ H0, H0 = H := ⟨_, rfl⟩
  subst eH0
  have S0 := S
  have k0 := Kp.refl H0
  obtain ⟨s0, es0⟩ : ∃ s0, s0 = ss := ⟨_, rfl⟩
  subst es0
  have q := hw
  have hst : ∀ {H1 : Hp} {s1 : SS}, Sm K G B [D] (wipe σ vs) H1 s1 → s1[v0]? = some (some (.lst all)) → (∀ i, i < all.length → (Itl K a0).go i H1 ∧ ∀ x H2, (Itl K a0).yld i H1 x H2 → Same H1 H2 ∧ ∃ d, all[i]? = some d ∧ DR K G H2 x d) ∧ ∀ i, all.length ≤ i → (Itl K a0).stop i H1 := fun S e => stand hv0 ha0 S e
  have sm0 : Same H0 (upd H0 D (.lst [])) := fun b o e => by rw [upd_ne (ne_of_none e nD)]; exact e
  have S1 : Sm K G B [D] (wipe σ vs) (upd H0 D (.lst [])) (wipS s0 vs) := (S0.alloc (N := [D]) sm0 fun a ha => by simp at ha; rw [ha]; exact nD).wipN
  refine ⟨fun i m H' => m = all.length - i ∧ i ≤ all.length ∧ ∃ (ss' : SS) (acc : List L2.V) (ds : List Z.D), Kp H0 H' ∧ Sm K G B [D] (wipe σ vs) H' ss' ∧ H' D = some (.lst acc) ∧ DRs K G H' acc ds ∧ zLcLO v0 all g tt t vs Q (all.drop i) ds ss',
    ⟨_, rfl, Nat.zero_le _, _, [], [], Kp.of sm0, S1, upd_same, .nil, by simpa using q⟩, ?_⟩
  rintro i m H1 ⟨rfl, hil, s1, acc, ds, k1, S1, hD, rds, q1⟩
  have st := hst S1 q1.ok
  by_cases hlt : i < all.length
  · obtain ⟨g1, y1⟩ := st.1 i hlt
    have ed : all.drop i = all[i] :: all.drop (i + 1) := (List.getElem_cons_drop hlt).symm
    rw [ed] at q1
    have q1 := q1.next
    refine .inr ⟨g1, fun H' => ∃ (ss' : SS) (acc : List L2.V) (ds : List Z.D), Kp H0 H' ∧ Sm K G B [D] (wipe σ vs) H' ss' ∧ H' D = some (.lst acc) ∧ DRs K G H' acc ds ∧ zLcLO v0 all g tt t vs Q (all.drop (i + 1)) ds ss',
      fun H' h => ⟨all.length - (i + 1), by omega, rfl, hlt, h⟩, fun x H2 y => ?_⟩
    obtain ⟨sm, d, e1, rd⟩ := y1 x H2 y
    have e2 : d = all[i] := by rw [List.getElem?_eq_getElem hlt] at e1; cases e1; rfl
    subst e2
    have hD2 := sm _ _ hD
    have S2 := (S1.same sm).hide hD2
    refine ⟨_, s1, _, _, S2, rd, q1, fun σ3 H3 s3 w3 k3 S3 q3 => ⟨w3.trans (wipe_wipe σ vs), ?_⟩⟩
    refine ⟨_, s3, _, S3, q3, fun b H4 s4 k4 S4 q4 => ?_⟩
    have kk4 : Kp H1 H4 := ((Kp.of sm).trans k3).trans k4
    have ws : ∀ {H' : Hp} {s' : SS}, Sm K G B [D] σ3 H' s' → Sm K G B [D] (wipe σ vs) H' (wipS s' vs) := fun {H' s'} S' => by
      have := S'.wipN (vs := vs)
      rw [w3.trans (wipe_wipe σ vs)] at this; exact this
    have bD : B D = none := S1.nn D (by simp)
    cases b with
    | false =>
      dsimp only
      rw [if_neg Bool.false_ne_true]
      exact ⟨_, acc, ds, k1.trans kk4, ws (S4.shown bD S1.gb), S4.keep D _ upd_same, rds.kp kk4, (fc_iff _ _).mp (q4.f rfl)⟩
    | true =>
      dsimp only
      rw [if_pos rfl]
      have q5 := q4.t rfl
      -- the element, frozen
      have hz : ZrD K G (upd B D (.lst acc)) (tFz (teOf K G t)) (zF t) := by
        intro σ H ss Q R S hw fin
        refine ⟨_, ss, _, S, hw, fun v H' r ss' k rr q => ?_⟩
        cases r with
        | d x => exact .inl (fin v H' x ss' k rr.1 rr.2 q)
        | new o =>
          obtain ⟨as, S', ro, nd⟩ := rr
          cases ef : o.fz with
          | none => simp only [ef] at q
          | some d =>
            simp only [ef] at q
            rcases fz_or S' ro ef with ⟨S2, r2, _⟩ | ⟨a, u, e1, _, e2, mu, q2⟩
            · exact .inl (fin v H' d ss' k S2 r2 q)
            · refine .inr ⟨a, u, e1, e2, mu, fun od => ?_⟩
              obtain ⟨S2, r2, k2⟩ := q2 od
              exact fin v _ d ss' (k.trans k2) S2 r2 q
        | loc i =>
          obtain ⟨S', ev⟩ := rr
          cases es : ss'[i]? with
          | none => simp only [es] at q
          | some oo =>
            cases oo with
            | none => simp only [es] at q
            | some o =>
              cases ef : o.fz with
              | none => simp only [es, ef] at q
              | some d =>
                simp only [es, ef] at q
                obtain ⟨v', as, ev', ro, nd, S2⟩ := S'.take es
                rw [ev] at ev'
                cases ev'
                rcases fz_or S2 ro ef with ⟨S3, r3, _⟩ | ⟨a, u, e1, _, e2, mu, q2⟩
                · refine .inl (fin v H' d _ k ?_ r3 q)
                  have := S3.put ev (.pure r3) List.nodup_nil
                  rw [List.set_set] at this; exact this
                · refine .inr ⟨a, u, e1, e2, mu, fun od => ?_⟩
                  obtain ⟨S3, r3, k2⟩ := q2 od
                  have S4 := S3.put ev (.pure r3) List.nodup_nil
                  rw [List.set_set] at S4
                  exact fin v _ d _ (k.trans k2) S4 r3 q
      refine hz σ3 H4 s4 _ _ S4 q5 fun y H5 d5 s5 k5 S5 r5 q6 => ?_
      have hD5 := S5.keep D _ upd_same
      have S6 := S5.shown bD S1.gb
      obtain ⟨S7, k7⟩ := S6.wrN (ys := acc ++ [y]) hD5
      have kk5 := (kk4.trans k5).trans k7
      exact ⟨acc, hD5, by rw [rds.length]; exact q6.1.h, _, acc ++ [y], ds ++ [d5], k1.trans kk5, ws S7, upd_same, (rds.kp kk5).append (.cons (r5.kp k7) .nil), (fc_iff _ _).mp q6.2⟩
  · have e : i = all.length := by omega
    subst e
    rw [List.drop_length] at q1
    have q1 := q1.stop
    refine .inl ⟨st.2 _ (Nat.le_refl _), ?_⟩
    exact fin (.ref D) H1 ds s1 (k0.trans k1) (show ∃ as, Sm K G B as σ H1 s1 ∧ OR K G H1 (.ref D) (.lst ds) as ∧ as.Nodup from ⟨[D], S1.unwip, .lst hD rds, by simp⟩) q1

/-- what a name holds that owns nothing -/
def ziV (v0 : Nat) : ZTI := fun ss Q => match ss[v0]? with
  | some (some (.pure (.lst _ xs))) => Q xs ss
  | some (some (.pure (.tup xs))) => Q xs ss
  | some (some (.pure (.str z))) => Q (z.cps.toList.map fun c => D.str ⟨#[c]⟩) ss
  | _ => False
theorem ziV_ok {K : Frag} {v0 : Nat} : ZIr K G B (iSeq K (tVar v0)) (ziV v0) := by
  intro σ H ss Q R S hw fin
  unfold ziV at hw
  cases e : ss[v0]? with
  | none => simp only [e] at hw
  | some oo =>
    cases oo with
    | none => simp only [e] at hw
    | some o =>
      cases o with
      | lst xs => simp only [e] at hw
      | ins _ _ _ _ => simp only [e] at hw
      | dct _ _ => simp only [e] at hw
      | pure d =>
        obtain ⟨v, ev, rd⟩ := S.pure e
        refine ⟨v, ev, ?_⟩
        cases d with
        | lst m ds =>
          simp only [e] at hw
          obtain ⟨a, xs, rfl, h1, h2⟩ := rd.lq
          exact .inl ⟨a, rfl, .inl ⟨⟨xs, h1 H (Kp.refl _)⟩, fin _ H ds ss (Kp.refl _) S (itok_list h1 h2) hw⟩⟩
        | tup ds =>
          simp only [e] at hw
          cases rd with
          | @tup a xs _ h1 h2 => exact .inl ⟨a, rfl, .inr ⟨⟨xs, h1⟩, fin _ H ds ss (Kp.refl _) S (itok_tup h1 h2) hw⟩⟩
        | str zz =>
          simp only [e] at hw
          cases rd
          exact .inr ⟨zz, rfl, fin _ H _ ss (Kp.refl _) S (itok_str zz) hw⟩
        | _ => simp only [e] at hw
theorem lcV_zr {K : Frag} {v0 : Nat} {g : ZG1} {tt : ZTB} {t : ZT} (σ : St) (H : Hp) (ss : SS) (Q : RV → SS → Prop) (R : VK) (S : Sm K G B [] σ H ss) (hw : zLcV v0 g tt t vs ss Q)
    (fin : ∀ v H' acc ss', Kp H H' → RR K G B σ H' ss' v (.new (.lst acc)) → Q (.new (.lst acc)) ss' → R v H') : tLc (iSeq K (tVar v0)) (tgOf K G vs g) (ttOf K G tt) (tFz (teOf K G t)) vs σ H R := by
  unfold zLcV at hw
  cases e : ss[v0]? with
  | none => simp only [e] at hw
  | some oo =>
    cases oo with
    | none => simp only [e] at hw
    | some o =>
      cases o with
      | ins _ _ _ _ => simp only [e] at hw
      | dct _ _ => simp only [e] at hw
      | lst xs =>
        simp only [e] at hw
        obtain ⟨a, ws, e1, e2, r⟩ := S.list e
        exact ⟨_, e1, .inl ⟨a, rfl, .inl ⟨⟨ws, .inl (.inl e2)⟩, lc_zrO σ H ss (fun acc s' => Q (.new (.lst acc)) s') R S hw.1.h e1 ((fc_iff _ _).mp hw.2) fin⟩⟩⟩
      | pure d =>
        refine lc_zr (zi := ziV v0) ziV_ok σ H ss (fun acc s' => Q (.new (.lst acc)) s') R S ?_ fin
        unfold zLcQ ziV
        cases d with
        | lst m ds => simp only [e] at hw ⊢; exact hw
        | tup ds => simp only [e] at hw ⊢; exact hw
        | str zz => simp only [e] at hw ⊢; exact hw
        | _ => simp only [e] at hw
theorem z_lcV {v0 : Nat} {x0 : Str} {p0 : Pos} {elt tg : Expr} {ifs : List Expr} {scope : Scope} {own : List (Str × Nat)} {g : ZG1} {tt : ZTB} {t : ZT} (C : Ctx X G B Wz k) (hN0 : X.N[v0]? = some x0 := by rfl) (hvi : Vis X.env.scope x0 := by first | exact Or.inl rfl | exact Or.inr (Or.inl rfl) | exact Or.inr (Or.inr rfl)) (hd0 : (x0 == ("__debug__" : Str)) = false := by decide) (hcd0 : (x0 == ("__classdict__" : Str)) = false := by decide) (ok : BlkOk X.N X.env.scope scope own)
    (hg : ∀ (s : Shared) (H : Hp) (C' : Addr) (cl : List (Str × Addr)) (fp : List Addr) (B' : Hp), Ctx (X.blk s H scope (compEnvC scope cl C' X.env) fp) G B' (fun _ _ _ _ => False) k → ZGc (X.blk s H scope (compEnvC scope cl C' X.env) fp) G B' (own.map (·.2)) tg g)
    (ht : ∀ (s : Shared) (H : Hp) (C' : Addr) (cl : List (Str × Addr)) (fp : List Addr) (B' : Hp), Ctx (X.blk s H scope (compEnvC scope cl C' X.env) fp) G B' (fun _ _ _ _ => False) k → ZTs (X.blk s H scope (compEnvC scope cl C' X.env) fp) G B' ifs tt)
    (he : ∀ (s : Shared) (H : Hp) (C' : Addr) (cl : List (Str × Addr)) (fp : List Addr) (B' : Hp), Ctx (X.blk s H scope (compEnvC scope cl C' X.env) fp) G B' (fun _ _ _ _ => False) k → ZE (X.blk s H scope (compEnvC scope cl C' X.env) fp) G B' elt t)
    (hs : ∀ x, foldedSetIterable (.Name x0 p0) X.env x = pure x := by intro _; rfl) : ZE X G B (.ListComp elt [⟨tg, .Name x0 p0, ifs, 0⟩] scope pos) (zLcV v0 g tt t (own.map (·.2))) := by
  have p := pi_seq (tg := tg) (pe_var (pos := p0) hN0 hvi hd0 hcd0)
  refine ⟨_, pe_lc (te := tFz (teOf X.K G t)) (tt := ttOf X.K G tt) (g := tgOf X.K G (own.map (·.2)) g) C.calm C.nd p ok (fun s H C' cl fp => pg_of fun B' => hg s H C' cl fp B' (C.blk s H scope _ fp B')) (fun s H C' cl fp => pts_of fun B' => ht s H C' cl fp B' (C.blk s H scope _ fp B'))
    (fun s H C' cl fp => pe_fz (pe_of fun B' => he s H C' cl fp B' (C.blk s H scope _ fp B'))) hs, fun σ H ss Q R S hw fin => lcV_zr σ H ss _ R S hw fun v H' acc ss' k rr q => fin v H' _ ss' k rr q⟩
/-- name = [..] on one line -/
theorem s_setLcV {v0 : Nat} {x0 : Str} {p0 : Pos} {i : Nat} {y : Str} {py spos : Pos} {elt tg : Expr} {ifs : List Expr} {scope : Scope} {own : List (Str × Nat)} {g : ZG1} {tt : ZTB} {t : ZT} (C : Ctx X G B Wz k) (hN0 : X.N[v0]? = some x0 := by rfl) (hvi : Vis X.env.scope x0 := by first | exact Or.inl rfl | exact Or.inr (Or.inl rfl) | exact Or.inr (Or.inr rfl)) (hd0 : (x0 == ("__debug__" : Str)) = false := by decide) (hcd0 : (x0 == ("__classdict__" : Str)) = false := by decide) (ok : BlkOk X.N X.env.scope scope own)
    (hg : ∀ (s : Shared) (H : Hp) (C' : Addr) (cl : List (Str × Addr)) (fp : List Addr) (B' : Hp), Ctx (X.blk s H scope (compEnvC scope cl C' X.env) fp) G B' (fun _ _ _ _ => False) k → ZGc (X.blk s H scope (compEnvC scope cl C' X.env) fp) G B' (own.map (·.2)) tg g)
    (ht : ∀ (s : Shared) (H : Hp) (C' : Addr) (cl : List (Str × Addr)) (fp : List Addr) (B' : Hp), Ctx (X.blk s H scope (compEnvC scope cl C' X.env) fp) G B' (fun _ _ _ _ => False) k → ZTs (X.blk s H scope (compEnvC scope cl C' X.env) fp) G B' ifs tt)
    (he : ∀ (s : Shared) (H : Hp) (C' : Addr) (cl : List (Str × Addr)) (fp : List Addr) (B' : Hp), Ctx (X.blk s H scope (compEnvC scope cl C' X.env) fp) G B' (fun _ _ _ _ => False) k → ZE (X.blk s H scope (compEnvC scope cl C' X.env) fp) G B' elt t)
    (hsw : swapsWith (.ListComp elt [⟨tg, .Name x0 p0, ifs, 0⟩] scope pos) (some (.Name y py)) spos.line X.env = pure true) (hy : X.N[i]? = some y := by rfl) (hyl : X.env.scope.names.lookup y = some .local := by rfl)
    (hs : ∀ x, foldedSetIterable (.Name x0 p0) X.env x = pure x := by intro _; rfl) : ZS X G B (.Assign [.Name y py] (.ListComp elt [⟨tg, .Name x0 p0, ifs, 0⟩] scope pos) spos) (zSet i (zLcV v0 g tt t (own.map (·.2)))) := by
  have p := pi_seq (tg := tg) (pe_var (pos := p0) hN0 hvi hd0 hcd0)
  refine ⟨_, ps_setLc (te := tFz (teOf X.K G t)) (tt := ttOf X.K G tt) (g := tgOf X.K G (own.map (·.2)) g) C.calm C.nd hy hyl hsw p ok (fun s H C' cl fp => pg_of fun B' => hg s H C' cl fp B' (C.blk s H scope _ fp B')) (fun s H C' cl fp => pts_of fun B' => ht s H C' cl fp B' (C.blk s H scope _ fp B'))
    (fun s H C' cl fp => pe_fz (pe_of fun B' => he s H C' cl fp B' (C.blk s H scope _ fp B'))) hs, fun σ H ss D D' S hw ok => ?_⟩
  unfold zSet zL at hw
  refine lcV_zr σ H ss _ _ S hw fun v H' acc ss' k rr q => ?_
  obtain ⟨as, S', ro, nd⟩ := rr
  exact ok.nx _ H' _ k (S'.set' ro nd) ((fc_iff _ _).mp q)
end

/-! ## instances that stand still or are owned -/
section
variable {X : Cx} {pins : List (Addr × Obj)} {σ : St} {H : Hp} {s : Shared} {a C dx : Addr} {fs : List (Str × V)} {f : Str} {v : V} {A : Around} {E : Value → Shared → Prop}
theorem ins_getR {P : Program} {w : World} {h : Heap} (hok : HOk P w H h) (e : Rd H a (.ins C dx fs)) : ∃ mA, ObjM h a dx C mA ∧ (∀ f, RelO (fs.lookup f) (mA f)) := by
  rcases e with e | ⟨o, e⟩
  · obtain ⟨mA, O, r, _⟩ := ins_get hok e
    exact ⟨mA, O, r⟩
  · obtain ⟨_, d, z, ne, ob, mA, n, r, q⟩ := hok a _ e
    exact ⟨mA, ⟨ob, n, ne⟩, r⟩
theorem getattr_okR {b : Bool} {Q : Value → Shared → Prop} (I : Inv X pins σ H s) (e : Rd H a (.ins C dx fs)) (c : Cls X.K C) (n : NoAttr X.K C f) (l : fs.lookup f = some v)
    (h : ∀ u s', Inv X pins σ H s' → RelV v u → Q u s') : wpAny (model X.prog X.w) A (getAttr (.ref a) f b) Q E s := by
  obtain ⟨mA, O, r⟩ := ins_getR I.hok e
  obtain ⟨u, hu, ru⟩ := RelO.some_of (v := v) (o := mA f) (by rw [← l]; exact r f)
  exact get_map I.kIn O (c.get f) c.hd n hu (handed_of ru) (h u _ (I.tok _) ru)
theorem getmeth_okR {m : Str} {g : Addr} {pl : Sem Bool} {Q : Value × List Value → Shared → Prop} (I : Inv X pins σ H s) (e : Rd H a (.ins C dx fs)) (c : Cls X.K C) (k : Meth X.K C m g) (l : fs.lookup m = none)
    (h : Q (.ref g, [.ref a]) s) : wpAny (model X.prog X.w) A (getMethod (.ref a) m pl) Q E s := by
  obtain ⟨mA, O, r⟩ := ins_getR I.hok e
  have hn : mA m = none := RelO.none_of (by rw [← l]; exact r m)
  exact get_meth I.kIn O (c.get m) k.at_ k.fn hn h
end
/-! ### names and what stands under them -/
def fldAt {α : Type} (f : Nat) : List Nat → List α → Option α
  | n :: ns, d :: ds => match n == f with
    | true => some d
    | false => fldAt f ns ds
  | _, _ => none
def fldOk (f : Nat) (ns : List Nat) : Bool := attB f && ns.all attB
def noFld (m : Nat) (ns : List Nat) : Bool := fldOk m ns && ns.all fun n => !(n == m)
theorem map_cons_inv {α β γ : Type} {f : α → β} {g : γ → β} {l : List α} {n : γ} {ns : List γ} (h : l.map f = (n :: ns).map g) : ∃ p l', l = p :: l' ∧ f p = g n ∧ l'.map f = ns.map g := by
  cases l with
  | nil => simp at h
  | cons p l => simp at h; exact ⟨p, l, rfl, h.1, h.2⟩
theorem look_fld {K : Frag} {G : Addr → Prop} {H : Hp} {f : Nat} : ∀ {ns : List Nat} {ds : List D} {fvs : List (Str × V)} {d : D}, fldOk f ns = true → fvs.map (·.1) = ns.map attN → DRs K G H (fvs.map (·.2)) ds → fldAt f ns ds = some d →
    ∃ v, fvs.lookup (attN f) = some v ∧ DR K G H v d
  | [], ds, fvs, d, _, _, _, h => by cases h
  | n :: ns, [], fvs, d, _, _, _, h => by cases h
  | n :: ns, x :: ds, fvs, d, ok, e, r, h => by
    obtain ⟨p, l', rfl, e1, e2⟩ := map_cons_inv e
    rw [List.map_cons] at r
    cases r with
    | cons r1 r2 =>
      unfold fldOk at ok
      rw [List.all_cons, Bool.and_eq_true, Bool.and_eq_true] at ok
      unfold fldAt at h
      cases q : n == f with
      | true =>
        rw [q] at h
        have e3 : n = f := by simpa using q
        subst e3
        have hx : x = d := by simpa using h
        subst hx
        refine ⟨p.2, ?_, r1⟩
        obtain ⟨pn, pv⟩ := p
        have e4 : pn = attN n := e1
        subst e4
        rw [List.lookup_cons]; simp
      | false =>
        rw [q] at h
        have ne : n ≠ f := by simpa using q
        obtain ⟨v, hv, rv⟩ := look_fld (fvs := l') (by unfold fldOk; rw [ok.1, ok.2.2]; rfl) e2 r2 h
        refine ⟨v, ?_, rv⟩
        obtain ⟨pn, pv⟩ := p
        have e4 : pn = attN n := e1
        subst e4
        have : (attN f == attN n) = false := beq_eq_false_iff_ne.mpr (attN_ne ok.1 ok.2.1 (Ne.symm ne))
        rw [List.lookup_cons, this]; exact hv
theorem look_no {m : Nat} : ∀ {ns : List Nat} {fvs : List (Str × V)}, noFld m ns = true → fvs.map (·.1) = ns.map attN → fvs.lookup (attN m) = none
  | [], fvs, _, e => by
    cases fvs with
    | nil => rfl
    | cons _ _ => simp at e
  | n :: ns, fvs, ok, e => by
    obtain ⟨p, l', rfl, e1, e2⟩ := map_cons_inv e
    unfold noFld fldOk at ok
    simp only [List.all_cons, Bool.and_eq_true] at ok
    obtain ⟨⟨o1, o2, o3⟩, o4, o5⟩ := ok
    have ne : n ≠ m := by simpa using o4
    obtain ⟨pn, pv⟩ := p
    have e4 : pn = attN n := e1
    subst e4
    have : (attN m == attN n) = false := beq_eq_false_iff_ne.mpr (attN_ne o1 o2 (Ne.symm ne))
    rw [List.lookup_cons, this]
    exact look_no (by unfold noFld fldOk; simp only [Bool.and_eq_true]; exact ⟨⟨o1, o3⟩, o5⟩) e2
/-- what of the text the classes cs must have for the attribute f -/
inductive FldOk (K : Frag) (f : Nat) : List Nat → Prop
  | nil : FldOk K f []
  | cons {c : Nat} {C : Addr} {cs : List Nat} : ClsAt K c C → Cls K C → NoAttr K C (attN f) → FldOk K f cs → FldOk K f (c :: cs)
theorem FldOk.at {K : Frag} {f : Nat} {c : Nat} {C : Addr} : ∀ {cs : List Nat}, FldOk K f cs → cs.contains c = true → ClsAt K c C → Cls K C ∧ NoAttr K C (attN f)
  | _, .nil, h, _ => by simp at h
  | _, .cons (c := c1) a b n t, h, hc => by
    by_cases e : c = c1
    · subst e
      cases ClsAt.eq a hc
      exact ⟨b, n⟩
    · refine t.at ?_ hc
      simp only [List.contains_cons, Bool.or_eq_true] at h
      rcases h with h | h
      · exact absurd (by simpa using h) e
      · exact h
/-! ### e.f -/
def tFldR (K : Frag) (ta : TE) (f : Str) : TE := fun σ H Q => ta σ H fun x H1 => ∃ a C dx fs v, x = .ref a ∧ Rd H1 a (.ins C dx fs) ∧ Cls K C ∧ NoAttr K C f ∧ fs.lookup f = some v ∧ Q v H1
theorem pe_fldR {X : Cx} {e : Expr} {f : Str} {pos : Pos} {ta : TE} (he : PE X e ta) (hb : attributeBase e f X.env (eval e X.env) = eval e X.env) : PE X (.Attribute e f pos) (tFldR X.K ta f) := by
  refine ⟨fun pins s σ H Q I h => ?_⟩
  refine attr_of hb (thn (he.run pins s σ H _ I h) fun u s1 ⟨x, H1, I1, rx, a, C, dx, fs, v, ex, ea, c, n, l, q⟩ => ?_)
  subst ex
  obtain rfl : u = Value.ref a := rx
  exact getattr_okR I1 ea c n l fun u' s2 I2 ru => ⟨v, H1, I2, ru, q⟩
section
variable {X : Cx} {G : Addr → Prop} {B : Hp} {Wz : WZ} {k j : Nat} {e o a b c : Expr} {es : List Expr} {t to : ZT} {ts : ZTA} {pos apos cpos p : Pos}
/-- e.f: of an instance that stands still, or of one that a name owns (there: what owns nothing) -/
def zFld (cs : List Nat) (f : Nat) (to : ZT) : ZT := fun ss Q => to ss fun r s => match r with
  | .d (.obj c ns ds) => match fldAt f ns ds with
    | some d => Sd ((cs.contains c && fldOk f ns) = true) ∧ Q (.d d) s
    | none => False
  | .loc i => match s[i]? with
    | some (some (.ins _ c ns os)) => match fldAt f ns os with
      | some (.pure d) => Sd ((cs.contains c && fldOk f ns) = true) ∧ Q (.d d) s
      | _ => False
    | _ => False
  | _ => False
theorem look_own {K : Frag} {G : Addr → Prop} {H : Hp} {f : Nat} : ∀ {ns : List Nat} {os : List O} {as : List Addr} {fvs : List (Str × V)} {d : D}, fldOk f ns = true → fvs.map (·.1) = ns.map attN → ORs K G H (fvs.map (·.2)) os as → fldAt f ns os = some (.pure d) →
    ∃ v, fvs.lookup (attN f) = some v ∧ DR K G H v d
  | [], os, as, fvs, d, _, _, _, h => by cases h
  | n :: ns, [], as, fvs, d, _, _, _, h => by cases h
  | n :: ns, x :: os, as, fvs, d, ok, e, r, h => by
    obtain ⟨p, l', rfl, e1, e2⟩ := map_cons_inv e
    rw [List.map_cons] at r
    cases r with
    | cons r1 r2 =>
      unfold fldOk at ok
      rw [List.all_cons, Bool.and_eq_true, Bool.and_eq_true] at ok
      unfold fldAt at h
      cases q : n == f with
      | true =>
        rw [q] at h
        have e3 : n = f := by simpa using q
        subst e3
        have hx : x = .pure d := by simpa using h
        subst hx
        obtain ⟨pn, pv⟩ := p
        have e4 : pn = attN n := e1
        subst e4
        have r1' : OR K G H pv (.pure d) _ := r1
        cases r1' with
        | pure r9 =>
          refine ⟨pv, ?_, r9⟩
          rw [List.lookup_cons]; simp
      | false =>
        rw [q] at h
        have ne : n ≠ f := by simpa using q
        obtain ⟨v, hv, rv⟩ := look_own (fvs := l') (by unfold fldOk; rw [ok.1, ok.2.2]; rfl) e2 r2 h
        refine ⟨v, ?_, rv⟩
        obtain ⟨pn, pv⟩ := p
        have e4 : pn = attN n := e1
        subst e4
        have : (attN f == attN n) = false := beq_eq_false_iff_ne.mpr (attN_ne ok.1 ok.2.1 (Ne.symm ne))
        rw [List.lookup_cons, this]; exact hv
theorem z_fld {cs : List Nat} {f : Nat} {m : Str} (he : ZE X G B e to) (fo : FldOk X.K f cs) (hm : m = attN f := by rfl) (hb : attributeBase e m X.env (eval e X.env) = eval e X.env := by rfl) : ZE X G B (.Attribute e m pos) (zFld cs f to) := by
  obtain ⟨te, pt, z⟩ := he
  refine ⟨_, pe_fldR pt hb, fun σ H ss Q R S hw fin => ?_⟩
  subst hm
  refine z σ H ss _ _ S hw fun v H1 r s1 k1 rr q => ?_
  cases r with
  | new o => exact q.elim
  | d x =>
    cases x with
    | obj cn ns ds =>
      cases ef : fldAt f ns ds with
      | none => simp only [ef] at q
      | some d =>
        simp only [ef] at q
        obtain ⟨S1, rd⟩ := rr
        cases rd with
        | @obj a C dx _ ob fvs _ _ hc h1 _ h2 h3 =>
          have sd := (Bool.and_eq_true _ _).mp q.1.h
          obtain ⟨cl, na⟩ := fo.at sd.1 hc
          obtain ⟨w, hw2, rw2⟩ := look_fld sd.2 h2 h3 ef
          exact ⟨a, C, dx, fvs, w, rfl, .inr ⟨_, h1⟩, cl, na, hw2, fin _ H1 (.d d) s1 k1 ⟨S1, rw2⟩ q.2⟩
    | _ => exact q.elim
  | loc i =>
    obtain ⟨S1, ev⟩ := rr
    cases es : s1[i]? with
    | none => simp only [es] at q
    | some oo =>
      cases oo with
      | none => simp only [es] at q
      | some o =>
        cases o with
        | pure d => simp only [es] at q
        | lst d => simp only [es] at q
        | dct _ _ => simp only [es] at q
        | ins a0 cn ns os =>
          simp only [es] at q
          cases ef : fldAt f ns os with
          | none => simp only [ef] at q
          | some oo =>
            cases oo with
            | lst _ => simp only [ef] at q
            | ins _ _ _ _ => simp only [ef] at q
            | dct _ _ => simp only [ef] at q
            | pure d =>
              simp only [ef] at q
              obtain ⟨w, as, ew, ro⟩ := S1.get es
              rw [ev] at ew
              cases ew
              cases ro with
              | @ins _ C dx _ fvs _ _ _ hc h1 h2 h3 =>
                have sd := (Bool.and_eq_true _ _).mp q.1.h
                obtain ⟨cl, na⟩ := fo.at sd.1 hc
                obtain ⟨w, hw2, rw2⟩ := look_own sd.2 h2 h3 ef
                exact ⟨a0, C, dx, fvs, w, rfl, .inl h1, cl, na, hw2, fin _ H1 (.d d) s1 k1 ⟨S1, rw2⟩ q.2⟩
end

/-! ## methods -/
section
variable {X : Cx} {G : Addr → Prop} {B : Hp} {Wz : WZ} {k j : Nat} {e o a b c : Expr} {es : List Expr} {t to : ZT} {ts : ZTA} {pos apos cpos p : Pos}
def tMethT (X : Cx) (k : Nat) (m : Str) (W : WX) (ta : TE) (t : TA) : TE := fun σ H Q => ta σ H fun x H1 => ∃ (a C dx : Addr) (fs : List (Str × V)) (f : Addr) (fd : FuncData) (ps : List Str) (j : Nat) (sp : Sp), x = .ref a ∧ Rd H1 a (.ins C dx fs) ∧ fs.lookup m = none ∧
  j ≤ k ∧ Cls X.K C ∧ Meth X.K C m f ∧ FnOk X.prog X.w X.K X.mg X.base (L2.CX X.prog X.w) j f fd ps sp ∧ Binds X.K fd ps [] ∧
  t σ H1 fun vs H2 => ∃ L : LL, (∀ p ∈ L, H2 p.1 = some p.2 ∧ Lk p.2) ∧ ∀ od, sp (x :: vs) (lkd L od H2) (fun v H' => Same (lkd L od H2) H' ∧ Q v (unl L H')) fun cls d H' => Same (lkd L od H2) H' ∧ W cls d σ (unl L H')
theorem pe_methT {pl : Sem Bool} {m : Str} {W : WX} {ta : TE} {t : TA} (he : PE X o ta) (hr : Room k X.A) (tk : Takes X W) (ha : PA X (e :: es) t)
    (hst : starEach (e :: es) X.env = (false, eval e X.env) :: starEach es X.env := by rfl) (hpl : (backTo pos (starEach es X.env)).any (·.1) = false := by rfl)
    (ht : eval (.Call (.Attribute o m apos) (e :: es) [] pos) X.env = (do
      let ov ← eval o X.env
      standAt apos.atName
      let (f, first) ← holding [ov] (getMethod ov m pl)
      callWith pos f first (backTo pos (starEach (e :: es) X.env)) (backToKw pos (keywordEach [] X.env))) := by rfl) :
    PE X (.Call (.Attribute o m apos) (e :: es) [] pos) (tMethT X k m W ta t) := by
  refine ⟨fun pins s σ H Q I h => ?_⟩
  refine PySem.W.methodCall_KW (pl := pl) (thn (he.run pins s σ H _ I h) fun u s1 ⟨x, H1, I1, rx, a, C, dx, fs, f, fd, ps, j, sp, ex, ea, l, hj, c, hm, F, hb, q⟩ => ?_) ht
  subst ex
  obtain rfl : u = Value.ref a := rx
  refine getmeth_okR I1 ea c hm l ?_
  refine PySem.W.callWith_K (first := [.ref a]) (h₀ := X.base) I.ok.mod.kin hm.kp (thn (ha.run pos pins s1 σ H1 _ I1 q) fun us s2 ⟨vs, H2, I2, r, q2⟩ => ⟨I2.kIn, ?_⟩) hst hpl
  exact run_lent (us := .ref a :: us) (vs := .ref a :: vs) F (hr.mono hj) hb tk I2 (.cons rfl r) q2
theorem pe_methT0 {pl : Sem Bool} {m : Str} {W : WX} {ta : TE} (he : PE X o ta) (hr : Room k X.A) (tk : Takes X W)
    (ht : eval (.Call (.Attribute o m apos) [] [] pos) X.env = (do
      let ov ← eval o X.env
      standAt apos.atName
      let (f, first) ← holding [ov] (getMethod ov m pl)
      callWith pos f first (backTo pos (starEach [] X.env)) (backToKw pos (keywordEach [] X.env))) := by rfl) :
    PE X (.Call (.Attribute o m apos) [] [] pos) (tMethT X k m W ta tNil) := by
  refine ⟨fun pins s σ H Q I h => ?_⟩
  refine PySem.W.methodCall_KW (pl := pl) (thn (he.run pins s σ H _ I h) fun u s1 ⟨x, H1, I1, rx, a, C, dx, fs, f, fd, ps, j, sp, ex, ea, l, hj, c, hm, F, hb, q⟩ => ?_) ht
  subst ex
  obtain rfl : u = Value.ref a := rx
  refine getmeth_okR I1 ea c hm l ?_
  exact PySem.W.callWith_K0 (first := [.ref a]) I1.kIn hm.kp (run_lent (us := [.ref a]) (vs := [.ref a]) F (hr.mono hj) hb tk I1 (.cons rfl .nil) q)
/-- the method m of the classes in the table -/
inductive MetsOk (P : Program) (w : World) (K : Frag) (mg : Str → Option Value) (base : Heap) (k m : Nat) : List (Nat × FS) → Prop
  | nil : MetsOk P w K mg base k m []
  | cons {c : Nat} {C f : Addr} {fd : FuncData} {ps : List Str} {j : Nat} {fs : FS} {tbl : List (Nat × FS)} : ClsAt K c C → Cls K C → Meth K C (attN m) f → FnOk P w K mg base (L2.CX P w) j f fd ps (toSp K fs) → Binds K fd ps [] → j ≤ k → MetsOk P w K mg base k m tbl → MetsOk P w K mg base k m ((c, fs) :: tbl)
def lookN {α : Type} (c : Nat) : List (Nat × α) → Option α
  | (n, x) :: l => match n == c with
    | true => some x
    | false => lookN c l
  | [] => none
theorem MetsOk.at {P : Program} {w : World} {K : Frag} {mg : Str → Option Value} {base : Heap} {k m c : Nat} {C : Addr} {fs : FS} : ∀ {tbl : List (Nat × FS)}, MetsOk P w K mg base k m tbl → lookN c tbl = some fs → ClsAt K c C →
    ∃ f fd ps j, j ≤ k ∧ Cls K C ∧ Meth K C (attN m) f ∧ FnOk P w K mg base (L2.CX P w) j f fd ps (toSp K fs) ∧ Binds K fd ps []
  | _, .nil, h, _ => by cases h
  | _, .cons (c := c1) a b d F bd hj t, h, hc => by
    unfold lookN at h
    cases e : c1 == c with
    | true =>
      rw [e] at h
      have e1 : c1 = c := by simpa using e
      subst e1
      cases h
      cases ClsAt.eq a hc
      exact ⟨_, _, _, _, hj, b, d, F, bd⟩
    | false =>
      rw [e] at h
      exact t.at h hc
/-- o.m(..), o frozen -/
def zMth (tbl : List (Nat × FS)) (m : Nat) (Wz : WZ) (to : ZT) (ts : ZTA) : ZT := fun ss Q => zF to ss fun o s1 => match o with
  | .obj c ns ds => match lookN c tbl with
    | some fs => Sd (noFld m ns = true) ∧ ts s1 fun rs s2 => zCallQ fs Wz (.d (.obj c ns ds) :: rs) s2 Q
    | none => False
  | _ => False
theorem mth_zr {tbl : List (Nat × FS)} {m : Nat} {W : WX} {ta : TE} {t : TA} (mo : MetsOk X.prog X.w X.K X.mg X.base k m tbl) (hW : ∀ σ H ss cls d c ns ds, Sm X.K G B [] σ H ss → XR X.K G H cls d c ns ds → Wz c ns ds ss → W cls d σ H)
    (za : ZrD X.K G B ta (zF to)) (zt : ZrA X.K G B t ts) : Zr X.K G B (tMethT X k (attN m) W ta t) (zMth tbl m Wz to ts) := by
  intro σ H ss Q R S hw fin
  refine za σ H ss _ _ S hw fun v H1 d s1 k1 S1 rd q => ?_
  cases d with
  | obj c ns ds =>
    cases el : lookN c tbl with
    | none => simp only [el] at q
    | some fs =>
      simp only [el] at q
      have rd0 := rd
      cases rd with
      | @obj a C dx _ ob fvs _ _ hc h1 _ h2 h3 =>
        obtain ⟨f, fd, ps, j, hj, cl, me, F, bd⟩ := mo.at el hc
        refine ⟨a, C, dx, fvs, f, fd, ps, j, _, rfl, .inr ⟨_, h1⟩, look_no q.1.h h2, hj, cl, me, F, bd, ?_⟩
        refine zt σ H1 s1 _ _ S1 q.2 fun vs H2 rs s2 k2 S2 ar q2 => ?_
        exact call_at (vs := .ref a :: vs) (rs := .d (.obj c ns ds) :: rs) hW S2 ⟨rd0.kp k2, ar⟩ q2 fun v H' r k3 rr qq => fin v H' r s2 ((k1.trans k2).trans k3) rr qq
  | _ => exact q.elim
theorem z_mth {tbl : List (Nat × FS)} {m : Nat} {x : Str} {pl : Sem Bool} (C : Ctx X G B Wz k) (he : ZE X G B o to) (mo : MetsOk X.prog X.w X.K X.mg X.base k m tbl) (ha : ZA X G B (e :: es) ts) (hx : x = attN m := by rfl)
    (hst : starEach (e :: es) X.env = (false, eval e X.env) :: starEach es X.env := by rfl) (hpl : (backTo pos (starEach es X.env)).any (·.1) = false := by rfl)
    (ht : eval (.Call (.Attribute o x apos) (e :: es) [] pos) X.env = (do
      let ov ← eval o X.env
      standAt apos.atName
      let (f, first) ← holding [ov] (getMethod ov x pl)
      callWith pos f first (backTo pos (starEach (e :: es) X.env)) (backToKw pos (keywordEach [] X.env))) := by rfl) :
    ZE X G B (.Call (.Attribute o x apos) (e :: es) [] pos) (zMth tbl m Wz to ts) := by
  obtain ⟨W, tk, hW⟩ := C.wish
  obtain ⟨tae, pae, zae⟩ := z_fz he
  obtain ⟨te, pa, za⟩ := ha
  subst hx
  exact ⟨_, pe_methT (pl := pl) pae C.room tk pa hst hpl ht, mth_zr mo hW zae za⟩
theorem z_mth0 {tbl : List (Nat × FS)} {m : Nat} {x : Str} {pl : Sem Bool} (C : Ctx X G B Wz k) (he : ZE X G B o to) (mo : MetsOk X.prog X.w X.K X.mg X.base k m tbl) (hx : x = attN m := by rfl)
    (ht : eval (.Call (.Attribute o x apos) [] [] pos) X.env = (do
      let ov ← eval o X.env
      standAt apos.atName
      let (f, first) ← holding [ov] (getMethod ov x pl)
      callWith pos f first (backTo pos (starEach [] X.env)) (backToKw pos (keywordEach [] X.env))) := by rfl) :
    ZE X G B (.Call (.Attribute o x apos) [] [] pos) (zMth tbl m Wz to zaNil) := by
  obtain ⟨W, tk, hW⟩ := C.wish
  obtain ⟨tae, pae, zae⟩ := z_fz he
  subst hx
  exact ⟨_, pe_methT0 (pl := pl) pae C.room tk ht, mth_zr (t := tNil) (ts := zaNil) mo hW zae (fun σ H ss Q R S hw fin => fin [] H [] ss (Kp.refl H) S trivial hw)⟩
end

/-! ## new instances -/
section
variable {X : Cx} {C : Addr} {pins : List (Addr × Obj)} {σ : St} {H : Hp} {s : Shared} {Q : VK}
theorem run_make0 (hm : PySem.W.makesIn X.K C = true) (hi : PySem.W.findIn X.K (.ref C) "__init__" = some (some (.builtin "object.__init__"))) (I : Inv X pins σ H s)
    (h : ∀ x dx, H x = none → H dx = none → dx ≠ x → Q (.ref x) (upd (upd H dx (.own x)) x (.ins C dx []))) : wpAny (model X.prog X.w) X.A (call (.ref C) []) (EP X pins σ Q) X.xe s := by
  have hq := h (s.heap.objs.size + 1) s.heap.objs.size (I.hok.fresh (Nat.le_succ _)) (I.hok.fresh (Nat.le_refl _)) (Nat.ne_of_lt (Nat.lt_succ_self _))
  have I2 := Inv.made (C := C) I
  refine wpAny_call (make_map0 I.kIn hm hi (fun self => PySem.W.Looks.of_pure (PySem.W.oi_bind self)) ?_)
  have Y := PySem.W.makes_of (M := model X.prog X.w) I.kIn hm
  have e2 : ((s.heap.push PySem.W.emptyDict).push (PySem.W.instObj C s.heap.objs.size)).get? (s.heap.objs.size + 1) = some (PySem.W.instObj C s.heap.objs.size) := by
    have := Heap.get?_push_size (s.heap.push PySem.W.emptyDict) (o := PySem.W.instObj C s.heap.objs.size) rfl
    rwa [Heap.size_push] at this
  have t1 : PySem.W.Looks (model X.prog X.w) ((s.heap.push PySem.W.emptyDict).push (PySem.W.instObj C s.heap.objs.size)) (typeOf (.ref (s.heap.objs.size + 1))) (.ref C) := (PySem.W.Looks.ld e2).andThen .now
  have t2 : PySem.W.Looks (model X.prog X.w) ((s.heap.push PySem.W.emptyDict).push (PySem.W.instObj C s.heap.objs.size)) (isInstance (.ref (s.heap.objs.size + 1)) (.type "object")) true :=
    t1.andThen (Y.top.keeps fun b o e => Heap.get?_push_of_some _ (Heap.get?_push_of_some _ e))
  refine codeAny_call_builtin PySem.W.oi_plain PySem.W.entry_oi (@PySem.W.check_slot (model X.prog X.w) _ _ _ "object.__init__" "object" "__init__" (.ref (s.heap.objs.size + 1)) [] [] _ PySem.W.oi_kind PySem.W.oi_split t2 (PySem.W.oi_args (.ref (s.heap.objs.size + 1))) ?_)
  rw [PySem.W.oi_run]
  exact wpAny_pure (And.intro rfl ⟨V.ref (s.heap.objs.size + 1), _, I2, rfl, hq⟩)
theorem run_makeE {f : Addr} {fd : FuncData} {ps : List Str} {ds : List Value} {dvs vs : List V} {us : List Value} {k : Nat} {sp : Sp} {W : WX} (M : Mk X.K C f) (F : FnOk X.prog X.w X.K X.mg X.base (L2.CX X.prog X.w) k f fd ps sp) (hr : Room (k + 1) X.A) (hb : Binds X.K fd ps ds) (hd : Vals dvs ds)
    (tk : Takes X W) (I : Inv X pins σ H s) (r : Vals vs us)
    (h : ∀ x dx, H x = none → H dx = none → dx ≠ x → sp (.ref x :: (vs ++ dvs)) (upd (upd H dx (.own x)) x (.ins C dx [])) (fun v H2 => v = .non ∧ Q (.ref x) H2) fun cls d H' => W cls d σ H') :
    wpAny (model X.prog X.w) X.A (call (.ref C) us) (EP X pins σ Q) X.xe s := by
  have hq := h (s.heap.objs.size + 1) s.heap.objs.size (I.hok.fresh (Nat.le_succ _)) (I.hok.fresh (Nat.le_refl _)) (Nat.ne_of_lt (Nat.lt_succ_self _))
  have I2 := Inv.made (C := C) I
  have r2 : Vals (V.ref (s.heap.objs.size + 1) :: (vs ++ dvs)) (Value.ref (s.heap.objs.size + 1) :: (us ++ ds)) := .cons rfl (r.append hd)
  have hl : (Value.ref (s.heap.objs.size + 1) :: us ++ ds).length = ps.length := by
    have e := r2.length
    rw [F.len _ _ _ _ hq] at e
    exact e.symm
  refine wpAny_call (make_map (f := f) I.kIn M.makes M.init (beq_iff_eq.mp M.fn) (codeAny_mono (F.run _ X.stack _ _ ⟨Value.ref (s.heap.objs.size + 1) :: us, []⟩ (Value.ref (s.heap.objs.size + 1) :: (us ++ ds)) _ _ _ (hr.make C us [])
    (I2.env0.make C us []) (hb _ (Value.ref (s.heap.objs.size + 1) :: us) I2.kIn hl) r2 hq) fun r s' hq' => ?_))
  cases r with
  | error e => exact tk _ _ (XE.of_call I2 (fun _ _ _ z => z) hq')
  | ok fl =>
    cases fl with
    | ret u =>
      obtain ⟨v, H', I3, rv, ev, q3⟩ := I2.after hq'
      subst ev
      exact ⟨rv, ⟨V.ref (s.heap.objs.size + 1), H', I3, rfl, q3⟩⟩
    | next => exact False.elim hq'
    | brk => exact False.elim hq'
    | cont => exact False.elim hq'
end
def tNew0 (C : Addr) : TE := fun _ H Q => ∀ x dx, H x = none → H dx = none → dx ≠ x → Q (.ref x) (upd (upd H dx (.own x)) x (.ins C dx []))
def tMakeE (C : Addr) (sp : Sp) (dvs : List V) (W : WX) (t : TA) : TE := fun σ H Q => t σ H fun vs H1 => ∀ x dx, H1 x = none → H1 dx = none → dx ≠ x →
  sp (.ref x :: (vs ++ dvs)) (upd (upd H1 dx (.own x)) x (.ins C dx [])) (fun v H2 => v = .non ∧ Q (.ref x) H2) fun cls d H' => W cls d σ H'
section
variable {X : Cx} {C f : Addr} {fd : FuncData} {ps : List Str} {ds : List Value} {dvs : List V} {k : Nat} {sp : Sp} {W : WX} {x : Str} {p pos : Pos} {e : Expr} {es : List Expr} {t : TA}
theorem pe_new00 (hm : PySem.W.makesIn X.K C = true) (hi : PySem.W.findIn X.K (.ref C) "__init__" = some (some (.builtin "object.__init__"))) (hk : PySem.W.keepIn X.K (.ref C) = true) (hg : Gl X x) (hmg : X.mg x = some (.ref C))
    (hdb : (x == ("__debug__" : Str)) = false := by decide) : PE X (.Call (.Name x p) [] [] pos) (tNew0 C) := by
  refine ⟨fun pins s σ H Q I h => ?_⟩
  refine wpAny_Call_Name_kw (ld_glob I hg hmg ?_ hdb)
  exact PySem.W.callWith_K0 I.kIn hk (run_make0 hm hi I h)
theorem pe_makeE (M : Mk X.K C f) (F : FnOk X.prog X.w X.K X.mg X.base (L2.CX X.prog X.w) k f fd ps sp) (hr : Room (k + 1) X.A) (hg : Gl X x) (hm : X.mg x = some (.ref C)) (hb : Binds X.K fd ps ds) (hd : Vals dvs ds) (tk : Takes X W)
    (ha : PA X (e :: es) t) (hdb : (x == ("__debug__" : Str)) = false := by decide) (he : starEach (e :: es) X.env = (false, eval e X.env) :: starEach es X.env := by rfl) (hpl : (backTo pos (starEach es X.env)).any (·.1) = false := by rfl) :
    PE X (.Call (.Name x p) (e :: es) [] pos) (tMakeE C sp dvs W t) := by
  refine ⟨fun pins s σ H Q I h => ?_⟩
  refine wpAny_Call_Name_kw (ld_glob I hg hm ?_ hdb)
  refine PySem.W.callWith_K (h₀ := X.base) I.ok.mod.kin M.kp (thn (ha.run pos pins s σ H _ I h) fun us s1 ⟨vs, H1, I1, r, q⟩ => ⟨I1.kIn, ?_⟩) he hpl
  exact run_makeE M F hr hb hd tk I1 r q
end
structure Al (p : Addr → Prop) : Prop where
  h : ∀ a, p a
/-- the promise of an __init__: the data, what the instance has behind it, what it raises -/
abbrev FSI := List D → (List Nat → List D → Prop) → EZ → Prop
def toSpI (K : Frag) (c : Nat) (f : FSI) : Sp := fun vs H Q E => ∃ (G : Addr → Prop) (a C dx : Addr) (ws : List V) (ds : List D) (Qz : List Nat → List D → Prop) (Ez : EZ), vs = .ref a :: ws ∧ H a = some (.ins C dx []) ∧ ClsAt K c C ∧ ¬ G a ∧
  (∀ a, G a → ∃ o, H a = some o) ∧ DRs K G H ws ds ∧ f ds Qz Ez ∧
  (∀ H' dx' fvs ns ds', (∀ b o, b ≠ a → H b = some o → H' b = some o) → H' a = some (.ins C dx' fvs) → fvs.map (·.1) = ns.map attN → DRs K G H' (fvs.map (·.2)) ds' → Qz ns ds' → Q .non H') ∧
  ∀ cls d H' c ns es, (∀ b o, b ≠ a → H b = some o → H' b = some o) → XR K G H' cls d c ns es → Ez c ns es → E cls d H'
theorem ORs_pure {K : Frag} {G : Addr → Prop} {H : Hp} : ∀ {vs : List V} {ds : List D}, DRs K G H vs ds → ORs K G H vs (ds.map .pure) []
  | _, _, .nil => .nil
  | _, _, .cons a b => .cons (as := []) (.pure a) (ORs_pure b)
section
variable {X : Cx} {G : Addr → Prop} {B : Hp} {Wz : WZ} {k j : Nat} {e o a b c : Expr} {es : List Expr} {t to : ZT} {pos apos cpos p : Pos}
def zNew0 (c : Nat) : ZT := fun ss Q => Al fun a => Q (.new (.ins a c [] [])) ss
theorem z_new0 {c : Nat} {C : Addr} {x : Str} (hc : ClsAt X.K c C) (hmg : X.mg x = some (.ref C)) (hm : PySem.W.makesIn X.K C = true) (hi : PySem.W.findIn X.K (.ref C) "__init__" = some (some (.builtin "object.__init__"))) (hk : PySem.W.keepIn X.K (.ref C) = true)
    (hg : Gl X x := by rfl) (hdb : (x == ("__debug__" : Str)) = false := by decide) : ZE X G B (.Call (.Name x p) [] [] pos) (zNew0 c) := by
  refine ⟨_, pe_new00 hm hi hk hg hmg hdb, fun σ H ss Q R S hw fin => ?_⟩
  intro x dx n1 n2 ne
  have sm : Same H (upd (upd H dx (.own x)) x (.ins C dx [])) := fun b o e => by
    rw [upd_ne (ne_of_none e n1), upd_ne (ne_of_none e n2)]; exact e
  refine fin (.ref x) _ (.new (.ins x c [] [])) ss (Kp.of sm) ⟨[x], S.alloc sm (fun a ha => by simp at ha; rw [ha]; exact n1), .ins hc upd_same rfl .nil, by simp⟩ (hw.h x)
/-- C(..) -/
def zMake (c : Nat) (fs : FSI) (dds : List D) (Wz : WZ) (ts : ZTDs) : ZT := fun ss Q => ts ss fun ds s => Al fun a => fs (ds ++ dds) (fun ns ds' => Q (.new (.ins a c ns (ds'.map .pure))) s) fun cls ns es => Wz cls ns es s
theorem DRs.append' {K : Frag} {H : Hp} {vs ws : List V} {ds es : List D} (h : DRs K G H vs ds) (g : DRs K G H ws es) : DRs K G H (vs ++ ws) (ds ++ es) := by
  match vs, ds, h with
  | [], [], _ => exact g
  | v :: vs, d :: ds, .cons a b => exact .cons a (DRs.append' b g)
theorem z_make {c : Nat} {C f : Addr} {fd : FuncData} {ps : List Str} {ds : List Value} {dvs : List V} {dds : List D} {fs : FSI} {ts : ZTDs} {x : Str} (Cc : Ctx X G B Wz k) (hc : ClsAt X.K c C) (M : Mk X.K C f)
    (F : FnOk X.prog X.w X.K X.mg X.base (L2.CX X.prog X.w) j f fd ps (toSpI X.K c fs)) (hj : j + 1 ≤ k) (hm : X.mg x = some (.ref C)) (hb : Binds X.K fd ps ds) (hd : Vals dvs ds) (hdd : ∀ G H, DRs X.K G H dvs dds)
    (ha : ZDs X G B (e :: es) ts) (hg : Gl X x := by rfl) (hdb : (x == ("__debug__" : Str)) = false := by decide) (he : starEach (e :: es) X.env = (false, eval e X.env) :: starEach es X.env := by rfl) (hpl : (backTo pos (starEach es X.env)).any (·.1) = false := by rfl) :
    ZE X G B (.Call (.Name x p) (e :: es) [] pos) (zMake c fs dds Wz ts) := by
  obtain ⟨W, tk, hW⟩ := Cc.wish
  obtain ⟨te, pa, za⟩ := ha
  refine ⟨_, pe_makeE M F (Cc.room.mono hj) hg hm hb hd tk pa hdb he hpl, fun σ H ss Q R S hw fin => ?_⟩
  refine za σ H ss _ _ S hw fun vs H1 es' s1 k1 S1 rs q => ?_
  intro x dx n1 n2 ne
  have sm : Same H1 (upd (upd H1 dx (.own x)) x (.ins C dx [])) := fun b o e => by
    rw [upd_ne (ne_of_none e n1), upd_ne (ne_of_none e n2)]; exact e
  have sm2 : ∀ {H' : Hp}, (∀ b o, b ≠ x → (upd (upd H1 dx (.own x)) x (.ins C dx [])) b = some o → H' b = some o) → Same H1 H' := fun {H'} h b o e => h b o (ne_of_none e n1) (sm b o e)
  refine ⟨G, x, C, dx, vs ++ dvs, es' ++ dds, _, _, rfl, upd_same, hc, fun g => ?_, fun a g => ?_, (DRs.append' rs (hdd G H1)).kp (Kp.of sm), q.h x, fun H' dx' fvs ns ds' h1 h2 h3 h4 qq => ⟨rfl, ?_⟩, fun cls d H' cn ns es h1 xr w => ?_⟩
  · obtain ⟨o, h⟩ := S1.gb x g
    have := S1.keep _ _ h
    rw [n1] at this; cases this
  · obtain ⟨o, h⟩ := S1.gb a g
    exact ⟨o, sm _ _ (S1.keep _ _ h)⟩
  · exact fin (.ref x) H' (.new (.ins x c ns (ds'.map .pure))) s1 (k1.trans (Kp.of (sm2 h1))) ⟨[x], S1.alloc (sm2 h1) (fun a ha => by simp at ha; rw [ha]; exact n1), .ins hc h2 h3 (ORs_pure h4), by simp⟩ qq
  · exact hW σ H' s1 cls d cn ns es (S1.same (sm2 h1)) xr w
end

/-! ## self.f = e -/
def putN (f : Nat) : List Nat → List Nat
  | [] => [f]
  | n :: ns => match n == f with
    | true => n :: ns
    | false => n :: putN f ns
def putD (f : Nat) (d : D) : List Nat → List D → List D
  | [], _ => [d]
  | n :: ns, x :: ds => match n == f with
    | true => d :: ds
    | false => x :: putD f d ns ds
  | _ :: _, [] => []
theorem put_fld {K : Frag} {G : Addr → Prop} {H : Hp} {f : Nat} {v : V} {d : D} (rd : DR K G H v d) : ∀ {ns : List Nat} {ds : List D} {fvs : List (Str × V)}, fldOk f ns = true → fvs.map (·.1) = ns.map attN → DRs K G H (fvs.map (·.2)) ds →
    (putF (attN f) v fvs).map (·.1) = (putN f ns).map attN ∧ DRs K G H ((putF (attN f) v fvs).map (·.2)) (putD f d ns ds)
  | [], ds, fvs, _, e, r => by
    have : fvs = [] := by cases fvs with
      | nil => rfl
      | cons _ _ => simp at e
    subst this
    exact ⟨rfl, .cons rd .nil⟩
  | n :: ns, ds, fvs, ok, e, r => by
    obtain ⟨p, l', rfl, e1, e2⟩ := map_cons_inv e
    obtain ⟨pn, pv⟩ := p
    have e4 : pn = attN n := e1
    subst e4
    rw [List.map_cons] at r
    match ds, r with
    | x :: ds, .cons r1 r2 =>
      unfold fldOk at ok
      rw [List.all_cons, Bool.and_eq_true, Bool.and_eq_true] at ok
      unfold putF putN putD
      cases q : n == f with
      | true =>
        have e3 : n = f := by simpa using q
        subst e3
        rw [if_pos rfl]
        exact ⟨by simp [e2], .cons rd r2⟩
      | false =>
        have ne : n ≠ f := by simpa using q
        rw [if_neg (attN_ne ok.2.1 ok.1 ne)]
        obtain ⟨a, b⟩ := put_fld rd (fvs := l') (by unfold fldOk; rw [ok.1, ok.2.2]; rfl) e2 r2
        exact ⟨by simp only [List.map_cons, a], .cons r1 b⟩
theorem pures_map {K : Frag} {G : Addr → Prop} {H : Hp} : ∀ {os : List O} {ds : List D}, O.fz.pures os = some ds → os = ds.map .pure
  | [], ds, h => by simp [O.fz.pures] at h; subst h; rfl
  | .pure d :: os, ds, h => by
    simp only [O.fz.pures, Option.map_eq_some_iff] at h
    obtain ⟨es, e, rfl⟩ := h
    rw [List.map_cons, ← pures_map (K := K) (G := G) (H := H) e]
  | .lst _ :: _, _, h => by simp [O.fz.pures] at h
  | .dct _ _ :: _, _, h => by simp [O.fz.pures] at h
  | .ins _ _ _ _ :: _, _, h => by simp [O.fz.pures] at h
section
variable {X : Cx} {G : Addr → Prop} {B : Hp} {Wz : WZ} {k j : Nat} {e o a b c : Expr} {es : List Expr} {t to : ZT} {pos apos cpos p : Pos} {σ : St} {H : Hp} {ss : SS}
theorem Sm.insW {K : Frag} (S : Sm K G B [] σ H ss) {i a0 c : Nat} {ns : List Nat} {os : List O} {ds : List D} (h : ss[i]? = some (some (.ins a0 c ns os))) (hp : O.fz.pures os = some ds) : ∃ C dx fvs, σ[i]? = some (some (.ref a0)) ∧ ClsAt K c C ∧ H a0 = some (.ins C dx fvs) ∧ fvs.map (·.1) = ns.map attN ∧
    DRs K G H (fvs.map (·.2)) ds ∧ ∀ fvs' ns' ds', fvs'.map (·.1) = ns'.map attN → DRs K G H (fvs'.map (·.2)) ds' → Sm K G B [] σ (upd H a0 (.ins C dx fvs')) (ss.set i (some (.ins a0 c ns' (ds'.map .pure)))) ∧ Kp H (upd H a0 (.ins C dx fvs')) := by
  obtain ⟨v, as, e, r, nd, S1⟩ := S.take h
  cases r with
  | @ins _ C dx _ fvs _ _ as' hc h1 h2 h3 =>
    obtain ⟨e2, r2⟩ := pures_or h3 hp
    subst e2
    refine ⟨C, dx, fvs, e, hc, h1, h2, r2, fun fvs' ns' ds' g1 g2 => ?_⟩
    have kp : Kp H (upd H a0 (.ins C dx fvs')) := Kp.upd h1 trivial
    have S2 : Sm K G B [a0] σ (upd H a0 (.ins C dx fvs')) (ss.set i none) := by
      obtain ⟨A, W⟩ := S1.own
      refine ⟨fun b o eb => ?_, ⟨A, fun j o eb => ?_, W.nd, W.ap, W.fr, W.off⟩, S1.nn, S1.gb, S1.len⟩
      · rw [upd_ne (ne_of_none eb (S1.nn a0 (by simp)))]
        exact S1.keep b o eb
      · obtain ⟨w, e1, r1⟩ := W.at_ j o eb
        exact ⟨w, e1, r1.kp kp fun b hb => upd_ne fun q => (W.fr j b hb).2 (by simp [q])⟩
    have S3 := S2.put (o := .ins a0 c ns' (ds'.map .pure)) e (.ins hc upd_same g1 (ORs_pure (g2.kp kp))) (by simp)
    rw [List.set_set] at S3
    exact ⟨S3, kp⟩
def zPut (cs : List Nat) (f i : Nat) (t : ZT) : ZTS := fun D ss => zF t ss fun d s => match s[i]? with
  | some (some (.ins a c ns os)) => match O.fz.pures os with
    | some ds => Sd ((cs.contains c && fldOk f ns && decide (ns.length < 900)) = true) ∧ D.nx (s.set i (some (.ins a c (putN f ns) ((putD f d ns ds).map .pure))))
    | none => False
  | _ => False
theorem s_put {cs : List Nat} {f i : Nat} {x m : Str} {np tp spos : Pos} (he : ZE X G B e t) (fo : FldOk X.K f cs) (hN : X.N[i]? = some x := by rfl) (hv : Vis X.env.scope x := by first | exact Or.inl rfl | exact Or.inr (Or.inl rfl) | exact Or.inr (Or.inr rfl))
    (hm : m = attN f := by rfl) (hd : (x == ("__debug__" : Str)) = false := by decide) (hcd : (x == ("__classdict__" : Str)) = false := by decide) (hs : swapsWith e (some (.Attribute (.Name x np) m tp)) spos.line X.env = pure false := by rfl) :
    ZS X G B (.Assign [.Attribute (.Name x np) m tp] e spos) (zPut cs f i t) := by
  obtain ⟨te, p, z⟩ := z_fz he
  refine ⟨_, ps_fld (pe_var hN hv hd hcd) p hs, fun σ H ss D D' S hw ok => ?_⟩
  subst hm
  refine z σ H ss _ _ S hw fun v H1 d s1 k1 S1 rd q => ?_
  cases es : s1[i]? with
  | none => simp only [es] at q
  | some oo =>
    cases oo with
    | none => simp only [es] at q
    | some o =>
      cases o with
      | pure d => simp only [es] at q
      | lst d => simp only [es] at q
      | dct d e => simp only [es] at q
      | ins a0 c ns os =>
        simp only [es] at q
        cases ep : O.fz.pures os with
        | none => simp only [ep] at q
        | some ds =>
          simp only [ep] at q
          obtain ⟨C, dx, fvs, e1, hc, h1, h2, h3, up⟩ := S1.insW es ep
          have sd := q.1.h
          simp only [Bool.and_eq_true] at sd
          obtain ⟨cl, na⟩ := fo.at sd.1.1 hc
          obtain ⟨p1, p2⟩ := put_fld (f := f) rd sd.1.2 h2 h3
          obtain ⟨S2, k2⟩ := up _ _ _ p1 p2
          have hl : fvs.length < 1000 := by
            have := congrArg List.length h2
            rw [List.length_map, List.length_map] at this
            have := of_decide_eq_true sd.2
            omega
          exact ⟨_, e1, a0, C, dx, fvs, rfl, h1, cl, na, hl, ok.nx σ _ _ (k1.trans k2) S2 q.2⟩
end
/-! ## __init__ -/
def delH (H : Hp) (a : Addr) : Hp := fun b => if b = a then none else H b
def initK (a0 c : Nat) (Qz : List Nat → List D → Prop) : SS → Prop := fun s => match s with
  | some (.ins a c' ns os) :: _ => match O.fz.pures os with
    | some ds => (a = a0 ∧ c' = c) ∧ Qz ns ds
    | none => False
  | _ => False
theorem args_smI {K : Frag} {G : Addr → Prop} {H : Hp} {N : List Str} {vs : List V} {ds : List D} {a c C dx : Nat} (hc : ClsAt K c C) (ha : H a = some (.ins C dx [])) (hn : ¬ G a) (hg : ∀ a, G a → ∃ o, H a = some o) (r : DRs K G H vs ds) (hl : ds.length + 1 ≤ N.length) :
    Sm K G (delH H a) [] (L2.start N (.ref a :: vs)) H (some (.ins a c [] []) :: args ds (N.length - 1)) := by
  have S0 : Sm K G H [] (L2.start N (.ref a :: vs)) H (args (.adr a :: ds) N.length) := args_sm hg (.cons (.adr a) r) (by simp; omega)
  obtain ⟨A, W⟩ := S0.own
  have e0 : args (.adr a :: ds) N.length = some (.pure (.adr a)) :: args ds (N.length - 1) := by
    unfold args
    rw [argS_map, argS_map, List.map_cons, List.cons_append, List.length_cons]
    congr 3
    omega
  have hA : ∀ i, A i = [] := fun i => by
    cases e : A i with
    | nil => rfl
    | cons b bs =>
      exfalso
      have hb : b ∈ A i := by rw [e]; simp
      by_cases q : ∃ o, (args (.adr a :: ds) N.length)[i]? = some (some o)
      · obtain ⟨o, ho⟩ := q
        have hp : ∃ d, o = .pure d := by
          unfold args at ho; rw [argS_map] at ho
          by_cases hi : i < (D.adr a :: ds).length
          · rw [List.getElem?_append_left (by simpa using hi), List.getElem?_map] at ho
            cases e2 : (D.adr a :: ds)[i]? with
            | none => rw [e2] at ho; cases ho
            | some d => rw [e2] at ho; cases ho; exact ⟨d, rfl⟩
          · rw [List.getElem?_append_right (by simpa using hi)] at ho
            rw [List.getElem?_replicate] at ho
            split at ho <;> cases ho
        obtain ⟨d, rfl⟩ := hp
        obtain ⟨v, _, ro⟩ := W.at_ i _ ho
        rw [e] at ro
        cases ro
      · have := W.off i fun o ho => q ⟨o, ho⟩
        rw [e] at this; cases this
  refine ⟨fun b o e => ?_, ⟨fun i => if i = 0 then [a] else [], fun i o h => ?_, fun i => ?_, fun i j b h1 h2 => ?_, fun i b h => ?_, fun i q => ?_⟩, fun b h => by simp at h, fun b g => ?_, ?_⟩
  · unfold delH at e
    by_cases q : b = a
    · rw [if_pos q] at e; cases e
    · rw [if_neg q] at e; exact e
  · cases i with
    | zero =>
      simp at h; subst h
      exact ⟨.ref a, by simp [L2.start], .ins hc ha rfl .nil⟩
    | succ i =>
      rw [List.getElem?_cons_succ] at h
      obtain ⟨v, e1, ro⟩ := W.at_ (i + 1) o (by rw [e0, List.getElem?_cons_succ]; exact h)
      rw [hA] at ro
      exact ⟨v, e1, ro⟩
  · by_cases q : i = 0 <;> simp [q]
  · by_cases q1 : i = 0
    · by_cases q2 : j = 0
      · omega
      · simp [q2] at h2
    · simp [q1] at h1
  · by_cases q1 : i = 0
    · simp [q1] at h; subst h
      exact ⟨by unfold delH; rw [if_pos rfl], by simp⟩
    · simp [q1] at h
  · by_cases q1 : i = 0
    · subst q1; exact absurd (by simp) (q (.ins a c [] []))
    · simp [q1]
  · obtain ⟨o, h⟩ := hg b g
    refine ⟨o, ?_⟩
    unfold delH
    rw [if_neg (show ¬ b = a from fun e => hn (by subst e; exact g))]; exact h
  · have := S0.len
    rw [e0] at this
    simpa using this
theorem fn_zI {P : Program} {w : World} {K : Frag} {mg : Str → Option Value} {base : Heap} {qual : Str} {bd : List Stmt} {sc : Scope} {f : Addr} {fd : FuncData} {N ps : List Str} {k c : Nat} {fs : FSI}
    (F : ∀ (sp : Sp), (∀ vs H Q E, sp vs H Q E → vs.length = ps.length) →
      (∀ (cdv : Value) (A : Around) (outer : List Env) (s : Shared) (H : Hp) (vs : List V) (Q : VK) (E : XK), Room k (A.deeper (PyProof.Rows.envOfC qual sc s.heap.objs.size f cdv)) → sp vs H Q E →
        ∃ t, PSs (cxOf (L2.CX P w) P w K mg base N qual sc f cdv A outer s H E) bd t ∧ t { nx := fun _ H' => Q .non H', rt := Q } (start N vs) H) → FnOk P w K mg base (L2.CX P w) (k + 1) f fd ps sp) (S : FnScope N ps sc)
    (hl : ∀ ds Q E, fs ds Q E → ds.length + 1 = ps.length) (zs : WZ → ZTS)
    (body : ∀ (cdv : Value) (A : Around) (outer : List Env) (s : Shared) (H : Hp) (E : XK) (G : Addr → Prop) (B : Hp) (Wz : WZ), Ctx (cxOf (L2.CX P w) P w K mg base N qual sc f cdv A outer s H E) G B Wz k →
      ZSs (cxOf (L2.CX P w) P w K mg base N qual sc f cdv A outer s H E) G B bd (zs Wz))
    (read : ∀ a ds Qz Ez, fs ds Qz Ez → zs (fun cls ns es _ => Ez cls ns es) ⟨initK a c Qz, fun _ _ => False, fun _ => False, fun _ => False⟩ (some (.ins a c [] []) :: args ds (N.length - 1))) :
    FnOk P w K mg base (L2.CX P w) (k + 1) f fd ps (toSpI K c fs) := by
  have hlen : ∀ vs H Q E, toSpI K c fs vs H Q E → vs.length = ps.length := fun vs H Q E ⟨G, a, C, dx, ws, ds, Qz, Ez, e, _, _, _, _, hd, hf, _⟩ => by subst e; rw [List.length_cons, hd.length]; exact hl ds Qz Ez hf
  have hps : ps.length ≤ N.length := by have := congrArg List.length S.pre; rw [List.length_take] at this; omega
  refine F _ hlen fun cdv A outer s H vs Q E hr hsp => ?_
  obtain ⟨G, a, C, dx, ws, ds, Qz, Ez, e, ha, hc, hna, hg, hd, hf, hq, he⟩ := hsp
  subst e
  have kp : ∀ {H' : Hp}, Same (delH H a) H' → ∀ b o, b ≠ a → H b = some o → H' b = some o := fun {H'} sm b o ne e => sm b o (by unfold delH; rw [if_neg ne]; exact e)
  have C' : Ctx (cxOf (L2.CX P w) P w K mg base N qual sc f cdv A outer s H E) G (delH H a) (fun cls ns es _ => Ez cls ns es) k :=
    ⟨hr, S.nd, rfl, passes_of rfl, ⟨_, takes_of rfl rfl rfl rfl, fun σ H' ss cls d c ns es S' xr w => he cls d H' c ns es (kp S'.keep) xr w⟩⟩
  obtain ⟨ts, p, r⟩ := body cdv A outer s H E G (delH H a) _ C'
  have hle : ds.length + 1 ≤ N.length := by rw [hl ds Qz Ez hf]; exact hps
  refine ⟨ts, p, r _ H _ _ _ (args_smI hc ha hna hg hd hle) (read a ds Qz Ez hf) ⟨fun σ' H' ss' k S' q => ?_, fun _ _ _ _ _ _ _ q => q.elim, fun _ _ _ _ _ q => q.elim, fun _ _ _ _ _ q => q.elim⟩⟩
  have q0 : initK a c Qz ss' := q
  clear q
  unfold initK at q0
  match ss', S', q0 with
  | some (.ins a' c' ns os) :: rest, S', q0 =>
    cases ep : O.fz.pures os with
    | none => simp only [ep] at q0
    | some es =>
      simp only [ep] at q0
      obtain ⟨⟨e1, e2⟩, q2⟩ := q0
      subst e1
      subst e2
      obtain ⟨C2, dx2, fvs, _, hc2, h1, h2, h3, _⟩ := S'.insW (i := 0) rfl ep
      cases ClsAt.eq hc hc2
      exact hq H' dx2 fvs ns es (kp S'.keep) h1 h2 h3 q2

/-! ## t > u of two tuples of whole numbers -/
def lexGt (ns ms : List Int) : Bool := Ob.lexAt (fun j => decide (ns.getD j 0 = ms.getD j 0)) (fun j => decide (ms.getD j 0 < ns.getD j 0)) (decide (ms.length < ns.length)) 0 (min ns.length ms.length)
def rGtT (K : Frag) : R2 := fun x y H Q => ∃ (a b : Addr) (ns ms : List Int), x = .ref a ∧ y = .ref b ∧ SqT K H a (ns.map V.int) ∧ SqT K H b (ms.map V.int) ∧ Q (.bl (lexGt ns ms)) H
theorem op_gtT {X : Cx} (hu : X.A.units < cLine) : OpR X (compareOp .Gt) (rGtT X.K) := by
  intro pins s σ H x y v u Q I rx ry h
  obtain ⟨a, b, ns, ms, rfl, rfl, ha, hb, q⟩ := h
  cases rx
  cases ry
  obtain ⟨its, r1, p1, _⟩ := I.tuple ha
  obtain ⟨its2, r2, p2, _⟩ := I.tuple hb
  have i1 : PyProof.Rows.IntsAre its ns := Vals.ints r1
  have i2 : PyProof.Rows.IntsAre its2 ms := Vals.ints r2
  have e1 : its.toArray.size = ns.length := by rw [List.size_toArray]; exact i1.length
  have e2 : its2.toArray.size = ms.length := by rw [List.size_toArray]; exact i2.length
  have at1 : ∀ j (h1 : j < its.toArray.size), ∃ t, its.toArray[j] = .int (ns.getD j 0) t := fun j h1 => PyProof.Rows.IntsAre.int_at i1 _ _ (by simp at h1; simp [h1])
  have at2 : ∀ j (h1 : j < its2.toArray.size), ∃ t, its2.toArray[j] = .int (ms.getD j 0) t := fun j h1 => PyProof.Rows.IntsAre.int_at i2 _ _ (by simp at h1; simp [h1])
  have R := Ob.RcOp.tuples_gt (A := X.A) (s := s) (e := fun j => decide (ns.getD j 0 = ms.getD j 0)) (r := fun j => decide (ms.getD j 0 < ns.getD j 0)) p1 p2 hu (fun j h1 h2 => by
    obtain ⟨t, et⟩ := at1 j h1
    obtain ⟨t', et'⟩ := at2 j h2
    rw [et, et']
    have z : (ns.getD j 0 == ms.getD j 0) = decide (ns.getD j 0 = ms.getD j 0) := by
      by_cases q : ns.getD j 0 = ms.getD j 0
      · rw [decide_eq_true q]; exact beq_iff_eq.mpr q
      · rw [decide_eq_false q]; exact beq_eq_false_iff_ne.mpr q
    rw [← z]
    exact SeqAt.EqAt.int_int _ _ _ _) (fun j h1 h2 _ => by
    obtain ⟨t, et⟩ := at1 j h1
    obtain ⟨t', et'⟩ := at2 j h2
    rw [et, et']
    exact Ob.RcOp.gt_int _ _ _ _)
  rw [e1, e2] at R
  have z : wpAny (model X.prog X.w) X.A (compareOp .Gt (.ref a) (.ref b)) (EP X pins σ Q) X.xe s := R X.prog X.w X.xe (EP X pins σ Q) ⟨.bl _, H, I, rfl, q⟩
  exact z
section
variable {X : Cx} {G : Addr → Prop} {B : Hp} {Wz : WZ} {k j : Nat} {e o a b c : Expr} {es : List Expr} {t to : ZT} {ts : ZTA} {pos apos cpos p : Pos}
/-- > of whole numbers, or of tuples of them -/
def zGtX : Z2 := fun x y Q => match x, y with
  | .int i, .int j => Q (.d (.bl (decide (j < i))))
  | .tup xs, .tup ys => ∃ ns ms : List Int, (xs = ns.map .int ∧ ys = ms.map .int) ∧ Q (.d (.bl (lexGt ns ms)))
  | _, _ => False
theorem oz_gtX (hu : X.A.units + 64 < cLine) : OpZ X (compareOp .Gt) zGtX := by
  refine ⟨_, OpR.or op_gt (op_gtT (Nat.lt_of_le_of_lt (Nat.le_add_right _ _) hu)), fun G H x y dx dy Q R hx hy q fin => ?_⟩
  unfold zGtX at q
  cases dx with
  | int i =>
    cases dy with
    | int j =>
      obtain rfl := hx.i; obtain rfl := hy.i
      exact .inl ⟨i, j, rfl, rfl, fin _ H _ (rs_d (.bl _)) q⟩
    | _ => exact q.elim
  | tup xs =>
    cases dy with
    | tup ys =>
      obtain ⟨ns, ms, ⟨rfl, rfl⟩, q⟩ := q
      cases hx with
      | d hx =>
        cases hy with
        | d hy =>
          cases hx with
          | @tup a1 ws1 _ h1 h2 =>
            cases hy with
            | @tup a2 ws2 _ g1 g2 =>
              obtain rfl := h2.ints
              obtain rfl := g2.ints
              exact .inr ⟨a1, a2, ns, ms, rfl, rfl, h1, g1, fin _ H _ (rs_d (.bl _)) q⟩
    | _ => exact q.elim
  | _ => cases dy <;> exact q.elim
/-! ## methods that only read -/
def D.fl : D → Bool
  | .non => true
  | .bl _ => true
  | .int _ => true
  | .str _ => true
  | _ => false
theorem DR.fl {K : Frag} {H : Hp} {v : V} {d : D} (h : DR K G H v d) (f : d.fl = true) : flatV v = true := by
  cases h <;> first | rfl | (simp [D.fl] at f)
theorem DR.eqf {K : Frag} {H : Hp} {v w : V} {d d' : D} (h : DR K G H v d) (h' : DR K G H w d') (f : d.fl = true) (f' : d'.fl = true) : eqV v w = D.eq d d' := by
  cases h <;> first | (simp [D.fl] at f; done) | (cases h' <;> first | (simp [D.fl] at f'; done) | rfl | (simp only [eqV, D.eq]; rfl) | (simp only [eqV, D.eq]; exact Bool.eq_iff_iff.mpr (by simp)))
/-- the first place of y -/
def D.idx (y : D) : List D → Option Nat
  | [] => none
  | x :: xs => match D.eq x y with
    | true => some 0
    | false => (D.idx y xs).map (· + 1)
theorem DRs.fls {K : Frag} {H : Hp} : ∀ {ds : List D} {vs : List V}, DRs K G H vs ds → ds.all D.fl = true → vs.all flatV = true
  | [], _, h, _ => by cases h; rfl
  | d :: ds, _, h, f => by
    cases h with
    | cons a b =>
      rw [List.all_cons, Bool.and_eq_true] at f
      rw [List.all_cons, a.fl f.1, DRs.fls b f.2]; rfl
theorem DRs.idx {K : Frag} {H : Hp} {w : V} {y : D} (rw_ : DR K G H w y) (fy : y.fl = true) : ∀ {ds : List D} {vs : List V} {j : Nat}, DRs K G H vs ds → ds.all D.fl = true → D.idx y ds = some j →
    ∃ z, vs[j]? = some z ∧ eqV z w = true ∧ ∀ m z', m < j → vs[m]? = some z' → eqV z' w = false
  | [], _, _, h, _, e => by cases e
  | d :: ds, _, j, h, f, e => by
    cases h with
    | @cons v _ vs _ a b =>
      rw [List.all_cons, Bool.and_eq_true] at f
      have ev := a.eqf rw_ f.1 fy
      unfold D.idx at e
      cases q : D.eq d y with
      | true =>
        rw [q] at e; cases e
        exact ⟨v, rfl, by rw [ev, q], fun m z' hm _ => by omega⟩
      | false =>
        rw [q] at e
        cases e2 : D.idx y ds with
        | none => rw [e2] at e; cases e
        | some i =>
          rw [e2] at e; cases e
          obtain ⟨z, h1, h2, h3⟩ := DRs.idx rw_ fy b f.2 e2
          refine ⟨z, by rw [List.getElem?_cons_succ]; exact h1, h2, fun m z' hm hz => ?_⟩
          cases m with
          | zero => rw [List.getElem?_cons_zero] at hz; cases hz; rw [ev, q]
          | succ m => rw [List.getElem?_cons_succ] at hz; exact h3 m z' (Nat.lt_of_succ_lt_succ hm) hz
/-- a method of T that only reads, on the receiver and the arguments -/
def MqZ (X : Cx) (id : String) (z : ZL) : Prop := ∃ r, MtR X id r ∧ ∀ (G : Addr → Prop) (H : Hp) (x : V) (xs : List V) (ds : List D) (Q : RV → Prop) (R : VK), VRs X.K G H (x :: xs) ds → z ds Q → (∀ v H' rv, RS X.K G H H' v rv → Q rv → R v H') → r x xs H R
/-- T by number: 0 list, 1 str -/
def kdN : Nat → String
  | 0 => "list"
  | _ => "str"
def D.kd : D → Nat → Bool
  | .lst _ _, 0 => true
  | .str _, 1 => true
  | _, _ => false
def zMq (n : Nat) (z : ZL) (to : ZT) (ts : ZTA) : ZT := fun ss Q => zN to ss fun r s1 => match cv s1 r with
  | some d => match d.kd n with
    | true => ts s1 fun rs s2 => match cvs s2 (r :: rs) with
      | some ds => z ds fun r => Q r s2
      | none => False
    | false => False
  | none => False
theorem kd_ty {K : Frag} {H : Hp} {v : V} {d : D} {n : Nat} (h : VR K G H v d) (e : d.kd n = true) : tyV K (kdN n) v H := by
  cases d with
  | lst m xs =>
    match n, e with
    | 0, _ =>
      obtain ⟨a, ws, rfl, hq, _⟩ := h.sq
      exact .inl ⟨rfl, ws, hq⟩
  | str s =>
    match n, e with
    | 1, _ =>
      cases h with
      | d h => cases h; rfl
  | _ => cases n with
    | zero => simp [D.kd] at e
    | succ n => cases n <;> simp [D.kd] at e
theorem mq_zr {n : Nat} {z : ZL} {r} {te : TE} {ta : TA} (hz : Zr X.K G B te (zN to)) (ht : ZrA X.K G B ta ts)
    (hr : ∀ (G : Addr → Prop) (H : Hp) (x : V) (xs : List V) (ds : List D) (Q : RV → Prop) (R : VK), VRs X.K G H (x :: xs) ds → z ds Q → (∀ v H' rv, RS X.K G H H' v rv → Q rv → R v H') → r x xs H R) :
    Zr X.K G B (tBM X.K (kdN n) r te ta) (zMq n z to ts) := by
  intro σ H ss Q R S hw fin
  refine hz σ H ss _ _ S hw fun v H1 rv s1 k1 rr q => ?_
  cases e1 : cv s1 rv with
  | none => simp only [e1] at q
  | some d =>
    simp only [e1] at q
    cases e2 : d.kd n with
    | false => simp only [e2] at q
    | true =>
      simp only [e2] at q
      refine ⟨kd_ty (cv_vr rr.sem (Kp.refl _) rr e1) e2, ?_⟩
      refine ht σ H1 s1 _ _ rr.sem q fun vs H2 rs s2 k2 S2 ar q2 => ?_
      cases e3 : cvs s2 (rv :: rs) with
      | none => simp only [e3] at q2
      | some ds =>
        simp only [e3] at q2
        have ar2 : AR X.K G σ H2 (v :: vs) (rv :: rs) := by
          cases rv with
          | d x => exact ⟨rr.2.kp k2, ar⟩
          | loc i => exact ⟨rr.2, ar⟩
          | new o => simp [cv] at e1
        exact hr G H2 v vs ds _ _ (cvs_vr S2 ar2 e3) q2 fun v' H3 rv' rs' qq => fin v' H3 rv' s2 ((k1.trans k2).trans (Kp.of rs'.same)) (rs'.rr S2) qq
theorem z_mq (n : Nat) {id : String} {z : ZL} {name : Str} (hm : MqZ X id z) (pa : PlainAttrs (kdN n)) (slot : Slot (kdN n) name id) (hty : typeOf (.builtin id) = pure (.type "method_descriptor")) (ho : ZE X G B o to) (ha : ZA X G B (e :: es) ts)
    (hbase : attributeBase o name X.env (eval o X.env) = eval o X.env := by rfl)
    (hfew : ((backTo cpos (starEach (e :: es) X.env)).all (fun x => !x.1) && (backToKw cpos (keywordEach [] X.env)).all (fun x => x.1.isSome)
      && decide ((e :: es).length + ([] : List Keyword).length + (if ([] : List Keyword).isEmpty then 0 else 1) < 30)) = true := by rfl)
    (hline : (apos.endLine == cpos.line) = true := by rfl) (hs : starEach (e :: es) X.env = (false, eval e X.env) :: starEach es X.env := by rfl) (hplain : (backTo cpos (starEach es X.env)).any (·.1) = false := by rfl) :
    ZE X G B (.Call (.Attribute o name apos) (e :: es) [] cpos) (zMq n z to ts) := by
  obtain ⟨r, h1, h2⟩ := hm
  obtain ⟨te, pt, zt⟩ := z_n ho
  obtain ⟨ta, pta, zta⟩ := ha
  exact ⟨_, pe_bm pa slot hty h1 pt pta hbase hfew hline hs hplain, mq_zr zt zta h2⟩
theorem z_mq0 (n : Nat) {id : String} {z : ZL} {name : Str} (hm : MqZ X id z) (pa : PlainAttrs (kdN n)) (slot : Slot (kdN n) name id) (hty : typeOf (.builtin id) = pure (.type "method_descriptor")) (ho : ZE X G B o to)
    (hbase : attributeBase o name X.env (eval o X.env) = eval o X.env := by rfl) (hline : (apos.endLine == cpos.line) = true := by rfl) :
    ZE X G B (.Call (.Attribute o name apos) [] [] cpos) (zMq n z to zaNil) := by
  obtain ⟨r, h1, h2⟩ := hm
  obtain ⟨te, pt, zt⟩ := z_n ho
  have hz := mq_zr (n := n) (ta := tNil) (ts := zaNil) zt (fun σ H ss Q R S hw fin => fin [] H [] ss (Kp.refl H) S trivial hw) h2
  exact ⟨_, pe_bm0 pa slot hty h1 pt hbase hline, hz⟩
theorem VRs.ref {K : Frag} {H : Hp} {x : V} {xs : List V} {d : D} {ds : List D} (h : VRs K G H (x :: xs) (d :: ds)) : VR K G H x d ∧ VRs K G H xs ds := by cases h with | cons a b => exact ⟨a, b⟩
/-- xs.index(y) of flat items, y among them -/
def zIndexC : ZL := fun ds Q => match ds with
  | [.lst _ xs, y] => Sd ((y.fl && xs.all D.fl) = true) ∧ ∃ j, D.idx y xs = some j ∧ Q (.d (.int (j : Nat)))
  | _ => False
theorem mq_index : MqZ X "list.index" zIndexC := by
  refine ⟨_, mt_index, fun G H x xs ds Q R h q fin => ?_⟩
  match ds, h, q with
  | [.lst m es, y], h, q =>
    obtain ⟨sd, j, hj, q⟩ := q
    have sd := (Bool.and_eq_true _ _).mp sd.h
    obtain ⟨h1, h2⟩ := h.ref
    obtain ⟨w, rfl, ry⟩ := h2.one
    obtain ⟨a, ws, rfl, hq, rr⟩ := h1.sq
    have ry' : DR X.K G H w y := by
      cases ry with
      | d r => exact r
      | l _ _ => simp [D.fl] at sd
      | k _ _ _ => simp [D.fl] at sd
    obtain ⟨z, z1, z2, z3⟩ := rr.idx ry' sd.1 sd.2 hj
    exact ⟨a, ws, w, j, z, rfl, rfl, hq, ry'.fl sd.1, rr.fls sd.2, z1, z2, z3, fin _ H _ (rs_d (.int _)) q⟩
/-- xs.count(n) of whole numbers -/
def zCountC : ZL := fun ds Q => ∃ (m : Nat) (ns : List Int) (k : Int), ds = [.lst m (ns.map .int), .int k] ∧ Q (.d (.int (ns.count k : Nat)))
theorem mq_count : MqZ X "list.count" zCountC := by
  refine ⟨_, mt_lcount, fun G H x xs ds Q R h q fin => ?_⟩
  obtain ⟨m, ns, k, rfl, q⟩ := q
  obtain ⟨h1, h2⟩ := h.ref
  obtain ⟨w, rfl, ry⟩ := h2.one
  obtain ⟨a, ws, rfl, hq, rr⟩ := h1.sq
  obtain rfl := rr.ints
  obtain rfl := ry.i
  exact ⟨a, ns, k, rfl, rfl, hq, fin _ H _ (rs_d (.int _)) q⟩
end

/-! ## the classes of the top -/
structure MethAt (K : Frag) (x qual : Str) (st : Stmt) (ps : List Str) (f : Addr) (fd : FuncData) : Prop where
  F : Fun K x qual st f fd
  b : Binds K fd ps []
/-- an __init__ whose last parameter may lack -/
structure InitAt (K : Frag) (x qual : Str) (st : Stmt) (ps : List Str) (f : Addr) (fd : FuncData) : Prop where
  F : FunD K x qual (defArgs st) (defBody st) (defScope st) [.non] [] f fd
  b : Binds K fd ps []
  b1 : Binds K fd ps [.none]
theorem cls_uniq {K : Frag} {x : Str} {C D : Addr} (h : PySem.W.nsIn K mainGlobals x = some (some (.ref C))) (g : PySem.W.nsIn K mainGlobals x = some (some (.ref D))) : C = D := by
  have := Eq.trans (Eq.symm h) g
  cases this; rfl
section
variable {K : Frag} {x : Str} {C f : Addr}
theorem cls_at (a : PySem.W.nsIn K mainGlobals x = some (some (.ref C))) (pg : PySem.W.plainGet K C Str.empty = true) (hd : PySem.W.hasDictIn K C = true) (po : PySem.W.plainOver K C = true)
    (sa : PySem.W.findIn K (.ref C) "__setattr__" = some (some (.builtin "object.__setattr__"))) (kc : PySem.W.keepIn K (.ref C) = true) : ∃ C, PySem.W.nsIn K mainGlobals x = some (some (.ref C)) ∧ Cls K C ∧ PySem.W.keepIn K (.ref C) = true := ⟨C, a, ⟨pg, hd, po, sa⟩, kc⟩
theorem new_at (a : PySem.W.nsIn K mainGlobals x = some (some (.ref C))) (mk : PySem.W.makesIn K C = true) (oi : PySem.W.findIn K (.ref C) "__init__" = some (some (.builtin "object.__init__"))) :
    ∃ C, PySem.W.nsIn K mainGlobals x = some (some (.ref C)) ∧ PySem.W.makesIn K C = true ∧ PySem.W.findIn K (.ref C) "__init__" = some (some (.builtin "object.__init__")) := ⟨C, a, mk, oi⟩
theorem noat_at {m : Str} (a : PySem.W.nsIn K mainGlobals x = some (some (.ref C))) (n : PySem.W.findIn K (.ref C) m = some none) : ∃ C, PySem.W.nsIn K mainGlobals x = some (some (.ref C)) ∧ NoAttr K C m := ⟨C, a, n⟩
variable {m qual : Str} {st : Stmt} {ps : List Str} {oc : Value} {od an : Option Addr} {osl : Array (Option Value)} {kV doc pm cdv ct : Value}
theorem meth_at (hb : ∀ (kV doc pm : Value) (an : Option Addr) (cdv ct : Value) (us : List Value), us.length = ps.length → bindArgs (PySem.W.fnOf m qual (defArgs st) (defBody st) (defScope st) .none kV doc pm an cdv ct) ⟨us, []⟩ = pure (ps.zip us))
    (a : PySem.W.nsIn K mainGlobals x = some (some (.ref C))) (g : PySem.W.findIn K (.ref C) m = some (some (.ref f))) (i : PySem.W.isFn K (.ref f) = true)
    (l : K.lookup f = some ⟨oc, od, .func (PySem.W.fnOf m qual (defArgs st) (defBody st) (defScope st) .none kV doc pm an cdv ct), osl⟩) (c : PySem.W.codeIn K cdv qual = true) (k : PySem.W.keepIn K (.ref f) = true) :
    ∃ C f fd, PySem.W.nsIn K mainGlobals x = some (some (.ref C)) ∧ Meth K C m f ∧ MethAt K m qual st ps f fd :=
  ⟨C, f, _, a, ⟨g, i, k⟩, fun_mk l c k, (fun_mk (st := st) l c k).binds hb⟩
theorem init_at (hb : ∀ (kV doc pm : Value) (an : Option Addr) (cdv ct : Value) (us : List Value), us.length = ps.length → bindArgs (PySem.W.fnOf "__init__" qual (defArgs st) (defBody st) (defScope st) .none kV doc pm an cdv ct) ⟨us, []⟩ = pure (ps.zip us))
    (a : PySem.W.nsIn K mainGlobals x = some (some (.ref C))) (mk : PySem.W.makesIn K C = true) (kc : PySem.W.keepIn K (.ref C) = true) (g : PySem.W.findIn K (.ref C) "__init__" = some (some (.ref f))) (i : PySem.W.isFn K (.ref f) = true)
    (l : K.lookup f = some ⟨oc, od, .func (PySem.W.fnOf "__init__" qual (defArgs st) (defBody st) (defScope st) .none kV doc pm an cdv ct), osl⟩) (c : PySem.W.codeIn K cdv qual = true) (k : PySem.W.keepIn K (.ref f) = true) :
    ∃ C f fd, PySem.W.nsIn K mainGlobals x = some (some (.ref C)) ∧ Mk K C f ∧ MethAt K "__init__" qual st ps f fd :=
  ⟨C, f, _, a, ⟨mk, g, i, kc⟩, fun_mk l c k, (fun_mk (st := st) l c k).binds hb⟩
theorem initD_at {T : Addr} {tc : Value} {td : Option Addr} {tn : Nat} {tsl : Array (Option Value)} {n : Nat} (hn : n + 1 = ps.length)
    (h0 : ∀ (T : Addr) (kV doc pm : Value) (an : Option Addr) (cdv ct : Value) (us its : List Value), us.length = n + 1 → its.length = 1 →
      ∃ k, bindArgs (PySem.W.fnOf "__init__" qual (defArgs st) (defBody st) (defScope st) (.ref T) kV doc pm an cdv ct) ⟨us, []⟩ = seqItems? (.ref T) >>= k ∧ k (some its.toArray) = pure (ps.zip (us ++ its.drop 1)))
    (h1 : ∀ (T : Addr) (kV doc pm : Value) (an : Option Addr) (cdv ct : Value) (us its : List Value), us.length = n → its.length = 1 →
      ∃ k, bindArgs (PySem.W.fnOf "__init__" qual (defArgs st) (defBody st) (defScope st) (.ref T) kV doc pm an cdv ct) ⟨us, []⟩ = seqItems? (.ref T) >>= k ∧ k (some its.toArray) = pure (ps.zip (us ++ its.drop 0)))
    (a : PySem.W.nsIn K mainGlobals x = some (some (.ref C))) (mk : PySem.W.makesIn K C = true) (kc : PySem.W.keepIn K (.ref C) = true) (g : PySem.W.findIn K (.ref C) "__init__" = some (some (.ref f))) (i : PySem.W.isFn K (.ref f) = true)
    (l : K.lookup f = some ⟨oc, od, .func (PySem.W.fnOf "__init__" qual (defArgs st) (defBody st) (defScope st) (.ref T) kV doc pm an cdv ct), osl⟩) (c : PySem.W.codeIn K cdv qual = true) (k : PySem.W.keepIn K (.ref f) = true)
    (t : K.lookup T = some ⟨tc, td, .seq #[.none] tn, tsl⟩) : ∃ C f fd, PySem.W.nsIn K mainGlobals x = some (some (.ref C)) ∧ Mk K C f ∧ InitAt K "__init__" qual st ps f fd := by
  have F : FunD K "__init__" qual (defArgs st) (defBody st) (defScope st) [.non] [] f (PySem.W.fnOf "__init__" qual (defArgs st) (defBody st) (defScope st) (.ref T) kV doc pm an cdv ct) :=
    ⟨⟨oc, od, .ref T, kV, doc, pm, an, cdv, ct, osl, rfl, l, c, .inr ⟨by simp, T, _, [.none], tn, rfl, t, rfl, .cons rfl .nil⟩, .inl rfl⟩, k⟩
  refine ⟨C, f, _, a, ⟨mk, g, i, kc⟩, F, ?_, ?_⟩
  · obtain ⟨ds, v, b⟩ := F.binds1 (ps := ps) (n + 1) 1 (by simp) (by simpa using hn) h0
    have : ds = [] := by cases v; rfl
    subst this; exact b
  · obtain ⟨ds, v, b⟩ := F.binds1 (ps := ps) n 0 (by simp) (by simpa using hn) h1
    have : ds = [.none] := by
      cases v with
      | cons r rs => cases rs; cases r; rfl
    subst this; exact b
end
/-! ## self.f as a target -/
section
variable {X : Cx} {G : Addr → Prop} {B : Hp} {pos np : Pos}
def gFld (K : Frag) (to : TE) (f : Str) : TG := fun v σ H Q => to σ H fun x H1 => ∃ a C dx fs, x = .ref a ∧ H1 a = some (.ins C dx fs) ∧ Cls K C ∧ NoAttr K C f ∧ fs.length < 1000 ∧ Q σ (upd H1 a (.ins C dx (putF f v fs)))
theorem pg_fld {o : Expr} {to : TE} {f : Str} (ho : PE X o to)
    (ha : ∀ v, assign (.Attribute o f pos) X.env v = (do
      let ov ← holding [v] (eval o X.env)
      standAt pos.atName
      holding [v, ov] (setAttr ov f v)
      release [v, ov] []) := by intro _; rfl) : PG X (.Attribute o f pos) (gFld X.K to f) := by
  refine ⟨fun pins s σ H v u Q I r h => ?_⟩
  rw [ha]
  refine wpAny_bind (wpAny_holding (thn (ho.run pins s σ H _ I h) fun ov s1 ⟨x, H1, I1, r1, a, C, dx, fs, ex, ea, c, n, l, q1⟩ => ?_))
  subst ex
  obtain rfl : ov = Value.ref a := r1
  refine wpAny_bind (wpAny_standAt (wpAny_bind (wpAny_holding (setattr_ok (I1.tok _) ea c n l r fun s3 I3 => ?_))))
  exact wpAny_release ⟨σ, _, I3, q1⟩
def gPut (cs : List Nat) (f i : Nat) : ZG1 := fun d s Q => match s[i]? with
  | some (some (.ins a c ns os)) => match O.fz.pures os with
    | some ds => Sd ((cs.contains c && fldOk f ns && decide (ns.length < 900)) = true) ∧ Q (s.set i (some (.ins a c (putN f ns) ((putD f d ns ds).map .pure))))
    | none => False
  | _ => False
theorem g_put {cs : List Nat} {f i : Nat} {x m : Str} (fo : FldOk X.K f cs) (hN : X.N[i]? = some x := by rfl) (hv : Vis X.env.scope x := by first | exact Or.inl rfl | exact Or.inr (Or.inl rfl) | exact Or.inr (Or.inr rfl))
    (hm : m = attN f := by rfl) (hd : (x == ("__debug__" : Str)) = false := by decide) (hcd : (x == ("__classdict__" : Str)) = false := by decide)
    (ha : ∀ v, assign (.Attribute (.Name x np) m pos) X.env v = (do
      let ov ← holding [v] (eval (.Name x np) X.env)
      standAt pos.atName
      holding [v, ov] (setAttr ov m v)
      release [v, ov] []) := by intro _; rfl) : ZG X G B (.Attribute (.Name x np) m pos) (gPut cs f i) := by
  refine ⟨_, pg_fld (pe_var hN hv hd hcd) ha, fun σ H ss v d Q R S rd q fin => ?_⟩
  subst hm
  unfold gPut at q
  cases es : ss[i]? with
  | none => simp only [es] at q
  | some oo =>
    cases oo with
    | none => simp only [es] at q
    | some o =>
      cases o with
      | pure d => simp only [es] at q
      | lst d => simp only [es] at q
      | dct d e => simp only [es] at q
      | ins a0 c ns os =>
        simp only [es] at q
        cases ep : O.fz.pures os with
        | none => simp only [ep] at q
        | some ds =>
          simp only [ep] at q
          obtain ⟨C, dx, fvs, e1, hc, h1, h2, h3, up⟩ := S.insW es ep
          have sd := q.1.h
          simp only [Bool.and_eq_true] at sd
          obtain ⟨cl, na⟩ := fo.at sd.1.1 hc
          obtain ⟨p1, p2⟩ := put_fld (f := f) rd sd.1.2 h2 h3
          obtain ⟨S2, k2⟩ := up _ _ _ p1 p2
          have hl : fvs.length < 1000 := by
            have := congrArg List.length h2
            rw [List.length_map, List.length_map] at this
            have := of_decide_eq_true sd.2
            omega
          exact ⟨_, e1, a0, C, dx, fvs, rfl, h1, cl, na, hl, fin σ _ _ k2 S2 q.2⟩
end

/-! ## a rest of a body that is read by itself -/
structure zTl (z : ZTS) (D : ZEnds) (ss : SS) : Prop where
  h : z D ss
def zTail (z : ZTS) : ZTS := fun D ss => zTl z D ss
theorem zs_tail {X : Cx} {G : Addr → Prop} {B : Hp} {l : List Stmt} {z : ZTS} (h : ZSs X G B l z) : ZSs X G B l (zTail z) := by
  obtain ⟨te, p, r⟩ := h
  exact ⟨te, p, fun σ H ss D D' S hw ok => r σ H ss D D' S hw.h ok⟩
/-! ## zip, enumerate, reversed (lists; frozen) -/
section
variable {X : Cx} {G : Addr → Prop} {B : Hp} {Wz : WZ} {k j : Nat} {e o a b c : Expr} {es : List Expr} {t to : ZT} {ts : ZTDs} {pos apos cpos p : Pos}
theorem SqL.at_eq {K : Frag} {H : Hp} {a : Addr} {xs : List V} (q : SqL K H a xs) : SqL K H a xs := q
def zipD (xs ys : List D) : List D := List.zipWith (fun x y => D.tup [x, y]) xs ys
def enD (xs : List D) : List D := (List.range xs.length).zipWith (fun (i : Nat) x => D.tup [.int (i : Int), x]) xs
theorem tupH {K : Frag} {H : Hp} {T : Addr} {x y : V} {d d' : D} (n : H T = none) (r : DR K G H x d) (r' : DR K G H y d') : Same H (upd H T (.tup [x, y])) ∧ DR K G (upd H T (.tup [x, y])) (.ref T) (.tup [d, d']) := by
  have sm : Same H (upd H T (.tup [x, y])) := fun b o e => by rw [upd_ne (ne_of_none e n)]; exact e
  exact ⟨sm, .tup (.inl (.inl upd_same)) (.cons (r.kp (Kp.of sm)) (.cons (r'.kp (Kp.of sm)) .nil))⟩
theorem itok_zip {K : Frag} {H : Hp} {a b : Addr} {xs ys : List V} {ds es : List D} (h : ∀ H1, Kp H H1 → SqL K H1 a xs) (h' : ∀ H1, Kp H H1 → SqL K H1 b ys) (r : DRs K G H xs ds) (r' : DRs K G H ys es) : ItOk K G (Itz K a b) (zipD ds es) H := by
  have hl : (zipD ds es).length = min ds.length es.length := by unfold zipD; rw [List.length_zipWith]
  refine ⟨fun H1 k i hi => ?_, fun H1 k i hi _ => ⟨xs, ys, h H1 k, h' H1 k, by rw [r.length, r'.length]; omega⟩⟩
  rw [hl] at hi
  have i1 : i < xs.length := by rw [r.length]; omega
  have i2 : i < ys.length := by rw [r'.length]; omega
  refine ⟨⟨xs, ys, xs[i], ys[i], h H1 k, h' H1 k, List.getElem?_eq_getElem i1, List.getElem?_eq_getElem i2⟩, fun v H2 y => ?_⟩
  obtain ⟨T, x, y, rfl, n, rfl, hx, hy⟩ := y
  obtain ⟨d, e1, rd⟩ := r.get' (hx xs (h H1 k))
  obtain ⟨d', e2, rd'⟩ := r'.get' (hy ys (h' H1 k))
  obtain ⟨sm, rt⟩ := tupH n (rd.kp k) (rd'.kp k)
  exact ⟨sm, _, by unfold zipD; rw [List.getElem?_zipWith, e1, e2], rt⟩
theorem itok_enum {K : Frag} {H : Hp} {a : Addr} {xs : List V} {ds : List D} (h : ∀ H1, Kp H H1 → SqL K H1 a xs) (r : DRs K G H xs ds) : ItOk K G (Ite K a) (enD ds) H := by
  have hl : (enD ds).length = ds.length := by unfold enD; rw [List.length_zipWith, List.length_range, Nat.min_self]
  refine ⟨fun H1 k i hi => ?_, fun H1 k i hi _ => ⟨xs, h H1 k, by rw [r.length]; omega⟩⟩
  rw [hl] at hi
  have i1 : i < xs.length := by rw [r.length]; omega
  refine ⟨⟨xs, xs[i], h H1 k, List.getElem?_eq_getElem i1⟩, fun v H2 y => ?_⟩
  obtain ⟨T, x, rfl, n, rfl, hx⟩ := y
  obtain ⟨d, e1, rd⟩ := r.get' (hx xs (h H1 k))
  obtain ⟨sm, rt⟩ := tupH n (.int (i : Nat)) (rd.kp k)
  exact ⟨sm, _, by unfold enD; rw [List.getElem?_zipWith, e1, List.getElem?_range hi], rt⟩
theorem itok_rev {K : Frag} {H : Hp} {a : Addr} {xs : List V} {ds : List D} (h : ∀ H1, Kp H H1 → SqL K H1 a xs) (r : DRs K G H xs ds) : ItOk K G (Itv K a xs.length) ds.reverse H := by
  refine ⟨fun H1 k i hi => ?_, fun H1 k i hi _ => by rw [List.length_reverse, ← r.length] at hi; exact hi⟩
  rw [List.length_reverse, ← r.length] at hi
  have i1 : xs.length - 1 - i < xs.length := by omega
  refine ⟨⟨hi, xs, xs[xs.length - 1 - i], h H1 k, List.getElem?_eq_getElem i1⟩, fun v H2 y => ?_⟩
  obtain ⟨rfl, hx⟩ := y
  obtain ⟨d, e1, rd⟩ := r.get' (hx xs (h _ k))
  refine ⟨Same.refl _, d, ?_, rd.kp k⟩
  rw [List.getElem?_reverse (by rw [← r.length]; exact hi), ← r.length]; exact e1
def ziZip (ts : ZTDs) : ZTI := fun ss Q => ts ss fun ds s => match ds with
  | [.lst _ xs, .lst _ ys] => Q (zipD xs ys) s
  | _ => False
def ziEnumerate (ts : ZTDs) : ZTI := fun ss Q => ts ss fun ds s => match ds with
  | [.lst _ xs] => Q (enD xs) s
  | _ => False
def ziReversed (ts : ZTDs) : ZTI := fun ss Q => ts ss fun ds s => match ds with
  | [.lst _ xs] => Q xs.reverse s
  | _ => False
theorem zi_zip {elts : List Expr} {kk : Nat} {tpos : Pos} (hm : X.mg "zip" = none) (ha : ZDs X G B [a, b] ts) (hg : Gl X "zip" := by rfl) (hs : starEach [a, b] X.env = (false, eval a X.env) :: starEach [b] X.env := by rfl) (hpl : (backTo pos (starEach [b] X.env)).any (·.1) = false := by rfl) :
    ZIt X G B (.Tuple elts kk tpos) (.Call (.Name "zip" p) [a, b] [] pos) (ziZip ts) := by
  obtain ⟨te, pa, r⟩ := ha
  refine ⟨_, pi_zip hg hm pa hs hpl, fun σ H ss Q R S hw fin => ?_⟩
  refine r σ H ss _ _ S hw fun vs H1 ds s1 k1 S1 rs q => ?_
  match ds, vs, rs, q with
  | [.lst m xs, .lst m' ys], [v, v'], .cons r1 (.cons r2 .nil), q =>
    obtain ⟨a, ws, rfl, h1, h2⟩ := r1.lq
    obtain ⟨b, us, rfl, g1, g2⟩ := r2.lq
    exact ⟨a, b, ws, us, rfl, h1 H1 (Kp.refl _), g1 H1 (Kp.refl _), fin _ H1 _ s1 k1 S1 (itok_zip h1 g1 h2 g2) q⟩
theorem zi_enumerate {elts : List Expr} {kk : Nat} {tpos : Pos} (hm : X.mg "enumerate" = none) (ha : ZDs X G B [a] ts) (hg : Gl X "enumerate" := by rfl) (hs : starEach [a] X.env = [(false, eval a X.env)] := by rfl) :
    ZIt X G B (.Tuple elts kk tpos) (.Call (.Name "enumerate" p) [a] [] pos) (ziEnumerate ts) := by
  obtain ⟨te, pa, r⟩ := ha
  refine ⟨_, pi_enum hg hm pa hs, fun σ H ss Q R S hw fin => ?_⟩
  refine r σ H ss _ _ S hw fun vs H1 ds s1 k1 S1 rs q => ?_
  match ds, vs, rs, q with
  | [.lst m xs], [v], .cons r1 .nil, q =>
    obtain ⟨a, ws, rfl, h1, h2⟩ := r1.lq
    exact ⟨a, ws, rfl, h1 H1 (Kp.refl _), fin _ H1 _ s1 k1 S1 (itok_enum h1 h2) q⟩
theorem zi_reversed {tg : Expr} (hm : X.mg "reversed" = none) (ha : ZDs X G B [a] ts) (hg : Gl X "reversed" := by rfl) (hs : starEach [a] X.env = [(false, eval a X.env)] := by rfl) :
    ZIt X G B tg (.Call (.Name "reversed" p) [a] [] pos) (ziReversed ts) := by
  obtain ⟨te, pa, r⟩ := ha
  refine ⟨_, pi_reversed hg hm pa hs, fun σ H ss Q R S hw fin => ?_⟩
  refine r σ H ss _ _ S hw fun vs H1 ds s1 k1 S1 rs q => ?_
  match ds, vs, rs, q with
  | [.lst m xs], [v], .cons r1 .nil, q =>
    obtain ⟨a, ws, rfl, h1, h2⟩ := r1.lq
    exact ⟨a, ws, rfl, h1 H1 (Kp.refl _), fin _ H1 _ s1 k1 S1 (itok_rev h1 h2) q⟩
end

/-! ## constants of the top -/
def ConstAt (K : Frag) (mg : Str → Option Value) (x : Str) (d : D) : Prop := ∃ (v : V) (u : Value), mg x = some u ∧ RelV v u ∧ ∀ (G : Addr → Prop) (H : Hp), DR K G H v d
section
variable {K : Frag} {h : Heap} {mg : Str → Option Value} {x : Str}
theorem const_str {s : Str} {t : Tok} (X : K.In h) (G : h.Ns mainGlobals mg) (a : PySem.W.nsIn K mainGlobals x = some (some (.str s t))) : ConstAt K mg x (.str s) :=
  ⟨.str s, .str s t, PySem.W.mg_of X G a, ⟨t, rfl⟩, fun _ _ => .str s⟩
theorem const_int {i : Int} {t : Tok} (X : K.In h) (G : h.Ns mainGlobals mg) (a : PySem.W.nsIn K mainGlobals x = some (some (.int i t))) : ConstAt K mg x (.int i) :=
  ⟨.int i, .int i t, PySem.W.mg_of X G a, ⟨t, rfl⟩, fun _ _ => .int i⟩
theorem DRs_strs {G : Addr → Prop} {H : Hp} : ∀ l : List Str, DRs K G H (l.map V.str) (l.map D.str)
  | [] => .nil
  | s :: l => .cons (.str s) (DRs_strs l)
theorem const_tup {l : List Str} {T : Addr} {td : Option Addr} {its : Array Value} {n : Nat} {sl : Array (Option Value)} (X : K.In h) (G : h.Ns mainGlobals mg) (a : PySem.W.nsIn K mainGlobals x = some (some (.ref T))) (t : K.lookup T = some ⟨.type "tuple", td, .seq its n, sl⟩)
    (v : Vals (l.map V.str) its.toList) (hs : its.size ≤ sizeLine) : ConstAt K mg x (.tup (l.map D.str)) :=
  ⟨.ref T, .ref T, PySem.W.mg_of X G a, rfl, fun _ _ => .tup (.inr ⟨_, its, n, t, rfl, rfl, hs, v⟩) (DRs_strs l)⟩
end
section
variable {X : Cx} {G : Addr → Prop} {B : Hp} {Wz : WZ} {k j : Nat} {e o a b c : Expr} {es : List Expr} {t to : ZT} {pos apos cpos p : Pos}
theorem z_const {x : Str} {d : D} (h : ConstAt X.K X.mg x d) (hg : Gl X x := by rfl) (hdb : (x == ("__debug__" : Str)) = false := by decide) : ZE X G B (.Name x pos) (zC d) := by
  obtain ⟨v, u, hm, r, hd⟩ := h
  exact z_glob hg hm r hd hdb
/-! ## str(..) -/
def zStrC : ZL := fun ds Q => match ds with
  | [.int i] => Sd (i.natAbs.log2 < 1920) ∧ Q (.d (.str (toString i)))
  | [.str s] => Q (.d (.str s))
  | _ => False
theorem cz_str : CalZ X (.type "str") zStrC := by
  refine ⟨_, call_str_int.or SkE.call_str_str, fun G H vs ds Q R h q fin => ?_⟩
  match ds, h, q with
  | [.int i], h, q =>
    obtain ⟨v, rfl, r⟩ := h.one
    obtain rfl := r.i
    exact .inl ⟨i, rfl, q.1.h, fin _ H _ (rs_d (.str _)) q.2⟩
  | [.str s], h, q =>
    obtain ⟨v, rfl, r⟩ := h.one
    obtain rfl := r.s
    exact .inr ⟨s, rfl, fin _ H _ (rs_d (.str _)) q⟩
/-! ## methods of texts -/
def zUpperC : ZL := fun ds Q => match ds with
  | [.str a] => Sd (a.length ≤ 5592405) ∧ Q (.d (.str (Txt.upper a)))
  | _ => False
theorem mq_upper : MqZ X "str.upper" zUpperC := by
  refine ⟨_, mt_upper, fun G H x xs ds Q R h q fin => ?_⟩
  match ds, h, q with
  | [.str a], h, q =>
    obtain ⟨h1, h2⟩ := h.ref
    cases h2
    obtain rfl := h1.s
    exact ⟨a, rfl, rfl, q.1.h, fin _ H _ (rs_d (.str _)) q.2⟩
def zSplitC : ZL := fun ds Q => match ds with
  | [.str a, .str b] => Sd ((b.length == 0) = false) ∧ Sd (a.length + 2 ≤ sizeLine) ∧ Q (.new (.lst ((Txt.split a b).map D.str)))
  | [.str a] => Sd (a.length + 2 ≤ sizeLine) ∧ Q (.new (.lst ((Txt.words a).map D.str)))
  | _ => False
theorem mq_split : MqZ X "str.split" zSplitC := by
  refine ⟨_, mt_split.or mt_words, fun G H x xs ds Q R h q fin => ?_⟩
  match ds, h, q with
  | [.str a, .str b], h, q =>
    obtain ⟨h1, h2⟩ := h.ref
    obtain ⟨w, rfl, ry⟩ := h2.one
    obtain rfl := h1.s
    obtain rfl := ry.s
    exact .inl ⟨a, b, rfl, rfl, q.1.h, q.2.1.h, fun p np => fin _ _ _ (rs_new np (DRs_strs _)) q.2.2⟩
  | [.str a], h, q =>
    obtain ⟨h1, h2⟩ := h.ref
    cases h2
    obtain rfl := h1.s
    exact .inr ⟨a, rfl, rfl, q.1.h, fun p np => fin _ _ _ (rs_new np (DRs_strs _)) q.2⟩
def zJoinC : ZL := fun ds Q => ∃ (a : Str) (m : Nat) (ys : List Str), ds = [.str a, .lst m (ys.map .str)] ∧ Sd ((ys.map (·.length)).sum + ys.length * a.length ≤ 16777216) ∧ Q (.d (.str (Txt.join a ys)))
theorem mq_join : MqZ X "str.join" zJoinC := by
  refine ⟨_, mt_join, fun G H x xs ds Q R h q fin => ?_⟩
  obtain ⟨a, m, ys, rfl, hz, q⟩ := q
  obtain ⟨h1, h2⟩ := h.ref
  obtain ⟨w, rfl, ry⟩ := h2.one
  obtain rfl := h1.s
  obtain ⟨p, ws, rfl, hq, rr⟩ := ry.sq
  obtain rfl := rr.strs
  exact ⟨a, p, ys, rfl, rfl, .inl hq, hz.h, fin _ H _ (rs_d (.str _)) q⟩
def zRjustC : ZL := fun ds Q => match ds with
  | [.str a, .int i] => Sd (PadOk i = true) ∧ Q (.d (.str (Txt.rjust a i)))
  | _ => False
theorem mq_rjust : MqZ X "str.rjust" zRjustC := by
  refine ⟨_, mt_rjust, fun G H x xs ds Q R h q fin => ?_⟩
  match ds, h, q with
  | [.str a, .int i], h, q =>
    obtain ⟨h1, h2⟩ := h.ref
    obtain ⟨w, rfl, ry⟩ := h2.one
    obtain rfl := h1.s
    obtain rfl := ry.i
    exact ⟨a, i, rfl, rfl, q.1.h, fin _ H _ (rs_d (.str _)) q.2⟩
/-- a.index(b), b in a -/
def zSIndexC : ZL := fun ds Q => match ds with
  | [.str a, .str b] => ∃ (i : Nat) (rest : List Nat), Builtin.Str.occurrences a b 0 a.length 1 = i :: rest ∧ Q (.d (.int (i : Nat)))
  | _ => False
theorem mq_sindex : MqZ X "str.index" zSIndexC := by
  refine ⟨_, mt_sindex, fun G H x xs ds Q R h q fin => ?_⟩
  match ds, h, q with
  | [.str a, .str b], h, q =>
    obtain ⟨i, rest, ho, q⟩ := q
    obtain ⟨h1, h2⟩ := h.ref
    obtain ⟨w, rfl, ry⟩ := h2.one
    obtain rfl := h1.s
    obtain rfl := ry.s
    exact ⟨a, b, i, rest, rfl, rfl, ho, fin _ H _ (rs_d (.int _)) q⟩
end

/-! ## an exception that was caught, kept as a thing -/
/-- an object that stands there untracked is tracked, known -/
theorem Inv.hold {X : Cx} {pins : List (Addr × Obj)} {σ : St} {H : Hp} {s : Shared} {a : Addr} {oe : Obj} {vs : Array Value} (I : Inv X pins σ H s) (ha : s.heap.get? a = some oe) (hd : oe.data = .fields vs) (hn : H a = none)
    (nL : a ≠ X.env.locals) (n0 : X.s_0.heap.get? a = none) (np : ∀ p ∈ X.pn ++ pins, p.1 ≠ a) : Inv X pins σ (upd H a (.frz oe (.ext fun _ => True))) s := by
  have old : ∀ b (u : HO), H b = some u → upd H a (.frz oe (.ext fun _ => True)) b = some u := fun b u e => by
    rw [upd_ne (fun z => by rw [z, hn] at e; cases e)]; exact e
  have off : ∀ b, b ≠ a → H b = none → upd H a (.frz oe (.ext fun _ => True)) b = none := fun b ne e => by rw [upd_ne ne]; exact e
  refine ⟨I.ok, I.os, I.bare, ⟨I.base.keep, I.base.slot, fun b o e n hx => ?_, I.base.there, fun b xs e => ?_, fun b o u e => ?_, fun b ps e => ?_⟩, I.loc, I.cell, ?_, fun x c e => ?_, fun p hp => ?_, fun b u e => ?_, I.len⟩
  · refine off b (fun z => ?_) (I.base.free b o e n hx)
    rw [z, n0] at e; cases e
  · exact old b _ (I.base.tups b xs e)
  · exact old b _ (I.base.frzs b o u e)
  · obtain ⟨m, q⟩ := I.base.tbls b ps e
    exact ⟨m, old b _ q⟩
  · exact off _ (fun z => nL z.symm) I.free
  · refine off c (fun z => ?_) (I.freeC x c e)
    obtain ⟨v, o, ho, hc⟩ := I.cell x c e
    rw [z, ha] at ho; cases ho
    rw [hd] at hc; cases hc
  · obtain ⟨q1, q2, q3⟩ := I.pin p hp
    exact ⟨q1, off _ (np p hp) q2, q3⟩
  · by_cases hb : b = a
    · subst hb
      rw [upd_same] at e; cases e
      exact ⟨ha, trivial, ⟨oe, ha⟩, fun _ _ _ _ => trivial⟩
    · rw [upd_ne hb] at e
      exact (I.hok b u e).stay (fun c v _ q => q) (fun c q => old c _ q) fun c xs q => old c _ q
/-- behind «except x as n», the exception kept -/
def wHold (K : Frag) (c : Value) (i : Nat) (ts : TS) (Wout : WX) (D : Ends) : WX := fun cls d σ H =>
  ∃ b, PySem.W.exmOne K cls c = some b ∧ (b = true → ∀ (a : Addr) (oe : Obj), H a = none → Zc cls d oe → (∃ vs, oe.data = .fields vs) →
    ts { nx := fun σ' H' => D.nx (σ'.set i none) H', rt := D.rt, bk := fun σ' H' => D.bk (σ'.set i none) H', ct := fun σ' H' => D.ct (σ'.set i none) H' } (σ.set i (some (.ref a))) (upd H a (.frz oe (.ext fun _ => True)))) ∧ (b = false → Wout cls d σ H)
section
variable {X : Cx} {x n : Str} {c : Value} {i : Nat} {body suite : List Stmt} {b₀ : Stmt} {np pos pos' : Pos} {tb : WX → TS} {ts : TS} {Wout : WX}
theorem ps_try_hold (hst : X.stack = X.env :: X.outer) (hfr : X.env.frame = some X.env.locals) (hex : X.ex = []) (nd : X.N.Nodup) (hi : X.N[i]? = some n) (hln : X.env.kindOf n = some .local) (hc : Names X x c) (tk : Takes X Wout)
    (hb : ∀ (W : WX) (pn : List (Addr × Obj)) (xe : Value → Shared → Prop), Takes (X.tr pn xe) W → PassesOwn (model X.prog X.w) X.A X.env xe → PSs (X.tr pn xe) body (tb W))
    (hsu : ∀ (a : Addr) (pn : List (Addr × Obj)), PSs (X.suite a pn) (b₀ :: suite) ts) :
    PS X (.Try body [.ExceptHandler (some (.Name x np)) (some n) (b₀ :: suite) pos'] [] [] pos) (fun D σ H => tb (wHold X.K c i ts Wout D) D σ H) := by
  refine ⟨fun pins s σ H D I0 h => ?_⟩
  have ok := I0.ok
  have frms : X.A.frames = some (X.env :: X.outer) := ok.frames.trans (congrArg some hst)
  have lo : Loc X.env.scope n := .inl hln
  refine wpAny_Try_except ?_
  have run := (hb (wHold X.K c i ts Wout D) (X.pn ++ pins) (fun e s₁ => wpAny (model X.prog X.w) X.A (noteFrame e X.env) (fun _ s₂ => wpAny (model X.prog X.w) X.A (setFlight e none) (fun _ s₃ =>
    wpAny (model X.prog X.w) X.A (handleBy e X.env [.ExceptHandler (some (.Name x np)) (some n) (b₀ :: suite) pos']) (SP X pins D) X.xe s₃) X.xe s₂) X.xe s₁) ?tk PassesOwn.looking).run [] s σ H D (I0.toTry _) h
  case tk =>
    intro u s' raised
    obtain ⟨a, B, sI, ps2, τ, J1, cls, d, rfl, iv, nb, up, sky, na, os, ag, b, mt, yes, no⟩ := raised
    have iv1 : Inv X pins τ J1 sI := iv.ofTry ok
    rw [hst] at sky
    show wpAny (model X.prog X.w) X.A (noteFrame (.ref a) X.env) _ _ _
    refine Sky.land Zc.steady frms hfr sky fun hA flA upA => ?_
    have ivA : Inv X pins τ J1 { s' with heap := hA } := iv1.landed nb flA.1 (up.trans upA) os ag
    obtain ⟨oA, vA, getA, zA, dA⟩ := flA.there
    have nofr : a ∉ frs (X.env :: X.outer) := fun hm => by
      obtain ⟨_, o2, g2, nf2⟩ := flA.2.2.1.mem hm
      rw [getA] at g2; cases g2
      exact nf2 _ dA
    have offL : a ≠ X.env.locals := fun z => nofr (List.mem_filterMap.mpr ⟨X.env, List.mem_cons_self, hfr.trans (congrArg some z.symm)⟩)
    -- it is new since the entry
    have newI : sI.heap.get? a = none := by
      cases e : sI.heap.get? a with
      | none => rfl
      | some o =>
        have := nb a o e (by rw [hst]; exact nofr)
        rw [flA.2.1] at this; cases this
    have new0 : X.s_0.heap.get? a = none := by
      cases e : X.s_0.heap.get? a with
      | none => rfl
      | some o =>
        obtain ⟨o', q⟩ := iv1.base.there a o e (by rw [hex]; exact fun z => nomatch z)
        rw [newI] at q; cases q
    have offP : ∀ p ∈ X.pn ++ pins, p.1 ≠ a := fun p hp z => by
      have := (iv1.pin p hp).1
      rw [z, newI] at this; cases this
    have LT : PySem.W.Looks (model X.prog X.w) hA (typeOf (.ref a)) cls := fun A Q E s k q => wpAny_typeOf_ref (k _ _ getA) (by rw [zA.1]; exact q)
    refine wpAny_handleBy_cons (codeAny_handlers_test ?_) (fun q => nomatch q)
    have pinA : Inv (X.suite a (X.pn ++ pins)) [] τ J1 { s' with heap := hA } :=
      ⟨ivA.ok.suite _ _, ivA.os, ivA.bare, ivA.base, ivA.loc, ivA.cell, ivA.free, ivA.freeC, fun p hp => ivA.pin p (by rw [List.append_nil] at hp; exact hp), ivA.hok, ivA.len⟩
    have ask : ∀ {Q : Value → Shared → Prop} {E : Value → Shared → Prop}, Q c { s' with heap := hA } → wpAny (model X.prog X.w) (X.A.mark (some (.ref a))) (eval (.Name x np) X.env) Q E { s' with heap := hA } := fun {Q E} q => by
      obtain ⟨g1, g2, g3 | ⟨g3, g4, g5⟩⟩ := hc
      · exact ld_glob (X := X.suite a (X.pn ++ pins)) pinA g1 g3 q g2
      · exact ld_blt (X := X.suite a (X.pn ++ pins)) pinA g1 g3 g4 q g5 g2
    refine ask ((PySem.W.exm_one (M := model X.prog X.w) ivA.kIn LT mt).here ?_)
    cases b with
    | true =>
      refine codeAny_handlers_suite_as ?_
      refine HandSPX.lands_againZ flA fun hB flB upB => ?_
      have ivB : Inv X pins τ J1 { s' with heap := hB } := iv1.landed nb flB.1 ((up.trans upA).trans upB) os ag
      obtain ⟨oB, vB, getB, zB, dB⟩ := flB.there
      have held := Inv.hold ivB getB dB na offL new0 offP
      have inS : Inv (X.suite a (X.pn ++ pins)) [] τ (upd J1 a (.frz oB (.ext fun _ => True))) { s' with heap := hB } :=
        ⟨held.ok.suite _ _, held.os, held.bare, held.base, held.loc, held.cell, held.free, held.freeC, fun p hp => held.pin p (by rw [List.append_nil] at hp; exact hp), held.hok, held.len⟩
      refine store_ok (X := X.suite a (X.pn ++ pins)) (v := .ref a) inS nd hi lo rfl (fun s5 in5 => ?_) (.inr hln)
      refine wpAny_mono ((hsu a (X.pn ++ pins)).run [] s5 _ _ _ in5 (yes rfl a oB na zB ⟨_, dB⟩)) (fun f s6 out => ?_) (fun _ _ z => False.elim z)
      have bye : ∀ {σ6 : St} {H6 : Hp} {Q : Shared → Prop}, Inv (X.suite a (X.pn ++ pins)) [] σ6 H6 s6 → (∀ s7, Inv X pins (σ6.set i none) H6 s7 → Q s7) →
          wpAny (model X.prog X.w) X.A (do bindName X.env n .none; unbindBehindTheSuite X.env n pos') (fun _ s7 => Q s7) X.xe s6 := fun {σ6 H6 Q} in6 hq => by
        have back : Inv X pins σ6 H6 s6 := ⟨ok, in6.os, in6.bare, in6.base, in6.loc, in6.cell, in6.free, in6.freeC, fun p hp => in6.pin p (by rw [List.append_nil]; exact hp), in6.hok, in6.len⟩
        exact gone_ok back nd hi hln hq
      cases f with
      | next => obtain ⟨σ6, H6, in6, q6⟩ := out; exact bye in6 fun s7 o7 => ⟨_, _, o7, q6⟩
      | brk => obtain ⟨σ6, H6, in6, q6⟩ := out; exact bye in6 fun s7 o7 => ⟨_, _, o7, q6⟩
      | cont => obtain ⟨σ6, H6, in6, q6⟩ := out; exact bye in6 fun s7 o7 => ⟨_, _, o7, q6⟩
      | ret u => obtain ⟨v6, σ6, H6, in6, r6, q6⟩ := out; exact bye in6 fun s7 o7 => ⟨_, _, _, o7, r6, q6⟩
    | false =>
      show wpAny _ X.A (handleBy (.ref a) X.env []) _ _ _
      refine wpAny_handleBy_nil ?_
      obtain ⟨k1, k2, k3, oe, vs, T, oT, ts', he, hz, hd, h1, hr⟩ := id flA
      unfold PySem.passOn
      refine wpAny_bind (wpAny_field he hd h1 ?_)
      rw [if_neg (show ¬ ((Value.ref T == Value.none) = true) from by simp)]
      have on : wpAny (model X.prog X.w) X.A (setFlight (.ref a) X.env.frame) (fun _ s4 => wpAny (model X.prog X.w) X.A (throw (.ref a) : Sem Flow) (SP X pins D) X.xe s4) X.xe { s' with heap := hA } := by
        rw [hfr]
        refine HandSPX.setFlight_upZ flA fun h4 hh4 up4 => wpAny_throw (tk _ _ ?_)
        exact ⟨a, B, sI, pins, τ, J1, cls, d, rfl, iv1, nb, (up.trans upA).trans up4, .inr (.inr (by rw [hst]; exact hh4)), na, os, ag, no rfl⟩
      first
        | exact wpAny_bind (wpAny_pure (wpAny_bind on))
        | exact wpAny_bind on
  refine wpAny_mono run (fun f s1 out => ?_) fun _ _ z => z
  cases f with
  | next => obtain ⟨σ1, H1, in1, q⟩ := out; exact wpAny_execs_nil ⟨σ1, H1, in1.ofTry ok, q⟩
  | brk => obtain ⟨σ1, H1, in1, q⟩ := out; exact ⟨σ1, H1, in1.ofTry ok, q⟩
  | cont => obtain ⟨σ1, H1, in1, q⟩ := out; exact ⟨σ1, H1, in1.ofTry ok, q⟩
  | ret u => obtain ⟨v, σ1, H1, in1, r, q⟩ := out; exact ⟨v, σ1, H1, in1.ofTry ok, r, q⟩
end

/-! ## raise -/
/-- an own exception class without __init__ of its own -/
structure ExAt (K : Frag) (mg : Str → Option Value) (c : Nat) (C : Addr) : Prop where
  at_ : ClsAt K c C
  m : mg (clsN c) = some (.ref C)
  q : PySem.W.excIn K C [.type "ValueError", .type "Exception", .type "BaseException", .type "object"] "ValueError.__new__" = true
  k : PySem.W.keepIn K (.ref C) = true
  b : PySem.W.subIn K (.ref C) (.type "BaseException") = some true
  t : PySem.W.typeIn K (.ref C) = some (.type "type")
theorem ex_at {K : Frag} {h : Heap} {mg : Str → Option Value} {c : Nat} {C : Addr} (X : K.In h) (G : h.Ns mainGlobals mg) (a : PySem.W.nsIn K mainGlobals (clsN c) = some (some (.ref C)))
    (q : PySem.W.excIn K C [.type "ValueError", .type "Exception", .type "BaseException", .type "object"] "ValueError.__new__" = true) (k : PySem.W.keepIn K (.ref C) = true) (b : PySem.W.subIn K (.ref C) (.type "BaseException") = some true) (t : PySem.W.typeIn K (.ref C) = some (.type "type")) : ∃ C, ExAt K mg c C :=
  ⟨C, a, PySem.W.mg_of X G a, q, k, b, t⟩
def zRaise (c : Nat) (Wz : WZ) : ZTS := fun _ ss => Wz c [] [] ss
section
variable {X : Cx} {G : Addr → Prop} {B : Hp} {Wz : WZ} {k : Nat} {e : Expr} {pos p p2 pos2 : Pos}
theorem s_raise {c j : Nat} {x m : Str} (C : Ctx X G B Wz k) (E : ∃ Ca, ExAt X.K X.mg c Ca) (hx : x = clsN c := by rfl) (hg : Gl X x := by rfl) (hdb : (x == ("__debug__" : Str)) = false := by decide) :
    ZS X G B (.Raise (some (.Call (.Name x p) [.Constant (.str m) j p2] [] pos)) none pos2) (zRaise c Wz) := by
  obtain ⟨Ca, E⟩ := E
  obtain ⟨W, tk, hW⟩ := C.wish
  subst hx
  exact ⟨_, ps_raise C.calm tk (pmk_own PySem.F.excBase_ValueError E.q E.m E.k (raises_own E.b E.t) hg hdb), fun σ H ss D D' S hw ok => hW σ H ss _ none c [] [] S ⟨⟨Ca, E.at_, rfl⟩, [], .inl ⟨rfl, rfl⟩, rfl, .nil⟩ hw⟩
end
/-! ## try .. except C as n -/
def ExmAt (K : Frag) (c' c : Nat) : Prop := ∃ C' C, ClsAt K c' C' ∧ ClsAt K c C ∧ PySem.W.exmOne K (.ref C') (.ref C) = some (subC c' c)
theorem exm_at {K : Frag} {c' c : Nat} {C' C : Addr} {b : Bool} (a : PySem.W.nsIn K mainGlobals (clsN c') = some (some (.ref C'))) (a2 : PySem.W.nsIn K mainGlobals (clsN c) = some (some (.ref C))) (e1 : PySem.W.subIn K (.ref C) (.type "BaseException") = some true) (e2 : PySem.W.hasDictIn K C = true)
    (e3 : PySem.W.typeIn K (.ref C) = some (.type "type")) (e : PySem.W.subIn K (.ref C') (.ref C) = some b) (h : subC c' c = b) : ExmAt K c' c := ⟨C', C, a, a2, by rw [h]; exact PySem.W.exm_ref e1 e2 e3 e⟩
inductive ExmsOk (K : Frag) (c : Nat) : List Nat → Prop
  | nil : ExmsOk K c []
  | cons {c' : Nat} {l : List Nat} : ExmAt K c' c → ExmsOk K c l → ExmsOk K c (c' :: l)
theorem ExmsOk.at {K : Frag} {c c' : Nat} {l : List Nat} (h : ExmsOk K c l) (m : l.contains c' = true) : ExmAt K c' c := by
  induction h with
  | nil => simp at m
  | @cons c1 l a t ih =>
    rw [List.contains_cons, Bool.or_eq_true] at m
    rcases m with m | m
    · have : c' = c1 := by simpa using m
      subst this; exact a
    · exact ih m
/-- what is kept at H beside B -/
def Bh (B H : Hp) : Hp := fun b => match H b with
  | some (.frz o u) => some (.frz o u)
  | some (.tup xs) => some (.tup xs)
  | some (.xd fs) => some (.xd fs)
  | _ => B b
theorem bh_same {B H : Hp} (s : Same B H) : Same (Bh B H) H := fun b o e => by
  unfold Bh at e
  cases h : H b with
  | none => simp only [h] at e; have := s b o e; rw [h] at this; cases this
  | some u => cases u <;> simp only [h] at e <;> first | exact e | (have := s b o e; rw [h] at this; exact this)
theorem bh_none {B H : Hp} {b : Addr} (h : Bh B H b = none) : B b = none := by
  unfold Bh at h
  cases e : H b with
  | none => simp only [e] at h; exact h
  | some u => cases u <;> simp only [e] at h <;> first | exact h | cases h
theorem bh_mut {B H : Hp} {b : Addr} (m : Mut (H b)) : Bh B H b = B b := by
  unfold Bh
  cases e : H b with
  | none => simp only
  | some u => rw [e] at m; cases u <;> first | exact m.elim | simp only
theorem bh_kp {B H H' : Hp} (s : Same (Bh B H) H') : Kp H H' := ⟨fun a o u h => s a _ (by unfold Bh; rw [h]), fun a o h => s a _ (by unfold Bh; rw [h]), fun a o h => s a _ (by unfold Bh; rw [h])⟩
section
variable {K : Frag} {G : Addr → Prop} {B : Hp} {σ : St} {H H' : Hp} {ss : SS}
theorem Sm.up (S : Sm K G B [] σ H ss) : Sm K G (Bh B H) [] σ H ss := by
  obtain ⟨A, W⟩ := S.own
  refine ⟨bh_same S.keep, ⟨A, W.at_, W.nd, W.ap, fun i a h => ⟨?_, by simp⟩, W.off⟩, fun a h => by simp at h, fun a g => ?_, S.len⟩
  · rw [bh_mut (W.there h).1]; exact (W.fr i a h).1
  · obtain ⟨o, h⟩ := S.gb a g
    cases e : Bh B H a with
    | some u => exact ⟨u, rfl⟩
    | none => rw [bh_none e] at h; cases h
theorem Sm.down {H0 : Hp} (S0 : Sm K G B [] σ H0 ss) {σ' : St} {ss' : SS} (S : Sm K G (Bh B H0) [] σ' H' ss') : Sm K G B [] σ' H' ss' := by
  obtain ⟨A, W⟩ := S.own
  refine ⟨fun b o e => ?_, ⟨A, W.at_, W.nd, W.ap, fun i a h => ⟨bh_none (W.fr i a h).1, by simp⟩, W.off⟩, fun a h => by simp at h, S0.gb, S.len⟩
  have h0 := S0.keep b o e
  refine S.keep b o ?_
  unfold Bh
  rw [h0]
  cases o <;> first | rfl | exact e
end
/-- D behind the suite: the name is gone -/
def zGone (i : Nat) (D : ZEnds) : ZEnds := ⟨fun s => fc (s.set i none) D.nx, D.rt, fun s => fc (s.set i none) D.bk, fun s => fc (s.set i none) D.ct⟩
def zTry (l : List Nat) (c i : Nat) (zb : WZ → ZTS) (zs : ZTS) (Wz : WZ) : ZTS := fun D ss =>
  zb (fun c' ns ds s => Sd (l.contains c' = true) ∧ Br (subC c' c) (fc (s.set i (some (.pure (.exc c' ns ds)))) fun s2 => zs (zGone i D) s2) (Wz c' ns ds s)) D ss
section
variable {X : Cx} {G : Addr → Prop} {B : Hp} {Wz : WZ} {k : Nat} {e : Expr} {pos np pos' p2 pos2 : Pos} {body suite : List Stmt} {b₀ : Stmt}
theorem s_try {c i : Nat} {l : List Nat} {x n : Str} {zb : WZ → ZTS} {zs : ZTS} (C : Ctx X G B Wz k) (hC : ∃ Ca, ClsAt X.K c Ca ∧ X.mg (clsN c) = some (.ref Ca)) (hl : ExmsOk X.K c l)
    (hb : ∀ (pn : List (Addr × Obj)) (xe : Value → Shared → Prop) (B' : Hp) (Wz' : WZ), Ctx (X.tr pn xe) G B' Wz' k → ZSs (X.tr pn xe) G B' body (zb Wz'))
    (hs : ∀ (a : Addr) (pn : List (Addr × Obj)), ZSs (X.suite a pn) G B (b₀ :: suite) zs)
    (hx : x = clsN c := by rfl) (hi : X.N[i]? = some n := by rfl) (hln : X.env.kindOf n = some .local := by rfl) (hg : Gl X x := by rfl) (hdb : (x == ("__debug__" : Str)) = false := by decide)
    (hst : X.stack = X.env :: X.outer := by rfl) (hfr : X.env.frame = some X.env.locals := by rfl) (hex : X.ex = [] := by rfl) :
    ZS X G B (.Try body [.ExceptHandler (some (.Name x np)) (some n) (b₀ :: suite) pos'] [] [] pos) (zTry l c i zb zs Wz) := by
  obtain ⟨Ca, hCa, hm⟩ := hC
  obtain ⟨W0, tk0, hW0⟩ := C.wish
  subst hx
  let tb : WX → TS := fun W E σ H => ∃ (B' : Hp) (Wz' : WZ) (ss : SS) (D : ZEnds), (∀ σ H ss cls d c ns ds, Sm X.K G B' [] σ H ss → XR X.K G H cls d c ns ds → Wz' c ns ds ss → W cls d σ H) ∧ Sm X.K G B' [] σ H ss ∧ zb Wz' D ss ∧ EOk X.K G B' H D E
  let ts : TS := fun E σ H => ∃ (ss : SS) (D : ZEnds), Sm X.K G B [] σ H ss ∧ zs D ss ∧ EOk X.K G B H D E
  refine ⟨_, ps_try_hold (c := .ref Ca) (tb := tb) (ts := ts) hst hfr hex C.nd hi hln ⟨hg, hdb, .inl hm⟩ tk0 (fun W pn xe tk ps => ⟨fun pins s σ H E I h => ?_⟩) (fun a pn => ⟨fun pins s σ H E I h => ?_⟩), fun σ H ss D D' S hw ok => ?_⟩
  · obtain ⟨B', Wz', ss, D, wish, S, hz, ok⟩ := h
    obtain ⟨t1, p1, r1⟩ := hb pn xe B' Wz' ⟨C.room, C.nd, C.calm, ps, ⟨W, tk, wish⟩⟩
    exact p1.run pins s σ H E I (r1 σ H ss D E S hz ok)
  · obtain ⟨ss, D, S, hz, ok⟩ := h
    obtain ⟨t1, p1, r1⟩ := hs a pn
    exact p1.run pins s σ H E I (r1 σ H ss D E S hz ok)
  · refine ⟨Bh B H, _, ss, D, fun σ1 H1 s1 cls d c' ns ds S1 xr w => ?_, S.up, hw, ⟨fun σ' H' ss' k' S' q => ok.nx σ' H' ss' k' (S.down S') q, fun σ' v H' r ss' k' rr q => ok.rt σ' v H' r ss' k' ?_ q, fun σ' H' ss' k' S' q => ok.bk σ' H' ss' k' (S.down S') q, fun σ' H' ss' k' S' q => ok.ct σ' H' ss' k' (S.down S') q⟩⟩
    · obtain ⟨⟨C1, h1, rfl⟩, fvs, h2, h3, h4⟩ := xr
      obtain ⟨C1', C2, g1, g2, g3⟩ := hl.at w.1.h
      cases ClsAt.eq h1 g1
      cases ClsAt.eq hCa g2
      refine ⟨_, g3, fun hb a oe na hz hf => ?_, fun hb => ?_⟩
      · have w2 := (fc_iff _ _).mp (w.2.t hb)
        have kp1 : Kp H H1 := bh_kp S1.keep
        have sm : Same H1 (upd H1 a (.frz oe (.ext fun _ => True))) := fun b o e => by rw [upd_ne (ne_of_none e na)]; exact e
        have rd : DR X.K G (upd H1 a (.frz oe (.ext fun _ => True))) (.ref a) (.exc c' ns ds) := .exc h1 upd_same hz.1 hf (by
          rcases h2 with ⟨q1, q2⟩ | ⟨p, q1, q2⟩
          · exact .inl ⟨hz.2.trans q1, q2⟩
          · exact .inr ⟨p, hz.2.trans q1, sm _ _ q2⟩) h3 (h4.kp (Kp.of sm))
        have S2 := ((S.down S1).same sm).setD' (i := i) rd
        have kk := kp1.trans (Kp.of sm)
        have gone : ∀ {σ' : St} {H' : Hp} {ss' : SS}, Sm X.K G B [] σ' H' ss' → Sm X.K G B [] (σ'.set i none) H' (ss'.set i none) := fun {σ' H' ss'} S' => by
          have S3 := S'.drop i
          obtain ⟨A, W⟩ := S3.own
          refine ⟨S3.keep, ⟨A, fun j o e => ?_, W.nd, W.ap, W.fr, W.off⟩, S3.nn, S3.gb, by simp [S'.len]⟩
          obtain ⟨v, e1, r⟩ := W.at_ j o e
          refine ⟨v, ?_, r⟩
          rcases get_set e with ⟨rfl, q⟩ | ⟨ne, _⟩
          · cases q
          · rw [List.getElem?_set_ne (Ne.symm ne)]; exact e1
        refine ⟨_, zGone i D, S2, w2, ⟨fun σ' H' ss' k' S' q => ?_, fun σ' v H' r ss' k' rr q => ok.rt σ' v H' r ss' (kk.trans k') rr q, fun σ' H' ss' k' S' q => ?_, fun σ' H' ss' k' S' q => ?_⟩⟩
        · exact ok.nx _ _ _ (kk.trans k') (gone S') ((fc_iff _ _).mp q)
        · exact ok.bk _ _ _ (kk.trans k') (gone S') ((fc_iff _ _).mp q)
        · exact ok.ct _ _ _ (kk.trans k') (gone S') ((fc_iff _ _).mp q)
      · exact hW0 σ1 H1 s1 _ d c' ns ds (S.down S1) ⟨⟨C1, h1, rfl⟩, fvs, h2, h3, h4⟩ (w.2.f hb)
    · cases r with
      | d x => exact ⟨S.down rr.1, rr.2⟩
      | loc j => exact ⟨S.down rr.1, rr.2⟩
      | new o =>
        obtain ⟨as, S', ro, nd⟩ := rr
        obtain ⟨A, W⟩ := S'.own
        refine ⟨as, ⟨fun b o e => ?_, ⟨A, W.at_, W.nd, W.ap, fun i a h => ⟨bh_none (W.fr i a h).1, (W.fr i a h).2⟩, W.off⟩, fun a h => bh_none (S'.nn a h), S.gb, S'.len⟩, ro, nd⟩
        have h0 := S.keep b o e
        refine S'.keep b o ?_
        unfold Bh
        rw [h0]
        cases o <;> first | rfl | exact e
end

/-! ## isinstance of own things: instances, caught exceptions -/
inductive IC where
  | o (c : Nat) | t (n : String)
  deriving DecidableEq
def isaC (c : Nat) : IC → Bool
  | .o c' => subC c c'
  | .t n => n == "ValueError"
def icV (K : Frag) : IC → Value → Prop
  | .o c, u => ∃ C, ClsAt K c C ∧ u = .ref C
  | .t n, u => u = .type n
/-- what is known of isinstance(an instance of class c, u) -/
def KitAt (K : Frag) (c : Nat) (u : IC) : Prop := ∃ C w, ClsAt K c C ∧ icV K u w ∧ PySem.W.kitOne K (.ref C) w = some (isaC c u)
theorem kit_o {K : Frag} {c c' : Nat} {C C' : Addr} {b : Bool} (a : PySem.W.nsIn K mainGlobals (clsN c) = some (some (.ref C))) (a2 : PySem.W.nsIn K mainGlobals (clsN c') = some (some (.ref C'))) (e2 : PySem.W.hasDictIn K C' = true) (e3 : PySem.W.typeIn K (.ref C') = some (.type "type"))
    (e : PySem.W.subIn K (.ref C) (.ref C') = some b) (h : subC c c' = b) (n : ((Value.ref C == Value.ref C') = false) ∨ b = true) : KitAt K c (.o c') := by
  refine ⟨C, .ref C', a, ⟨C', a2, rfl⟩, ?_⟩
  have hb : isaC c (.o c') = b := h
  rw [hb]
  unfold PySem.W.kitOne
  by_cases q : (Value.ref C == Value.ref C') = true
  · rw [if_pos q]
    rcases n with n | n
    · rw [q] at n; cases n
    · rw [n]
  · rw [if_neg q]
    obtain ⟨cd, hc, _⟩ := PySem.W.any_some e2
    show (if ((PySem.W.clsIn K C').isSome && PySem.W.typeIn K (.ref C') == some (.type "type")) = true then PySem.W.subIn K (.ref C) (.ref C') else none) = some b
    rw [hc, e3, if_pos (by rfl)]; exact e
theorem kit_t {K : Frag} {c : Nat} {n : String} {C : Addr} {b : Bool} (a : PySem.W.nsIn K mainGlobals (clsN c) = some (some (.ref C))) (e : PySem.W.subIn K (.ref C) (.type n) = some b) (m : PySem.W.kitMeta n = true) (h : (n == "ValueError") = b) : KitAt K c (.t n) := by
  refine ⟨C, .type n, a, rfl, ?_⟩
  have hb : isaC c (.t n) = b := h
  rw [hb]
  unfold PySem.W.kitOne
  rw [if_neg (fun z => by cases beq_iff_eq.mp z)]
  show (if PySem.W.kitMeta n = true then PySem.W.subIn K (.ref C) (.type n) else none) = some b
  rw [if_pos m]; exact e
inductive KitsOk (K : Frag) : List (Nat × IC) → Prop
  | nil : KitsOk K []
  | cons {c : Nat} {u : IC} {l : List (Nat × IC)} : KitAt K c u → KitsOk K l → KitsOk K ((c, u) :: l)
theorem KitsOk.at {K : Frag} {c : Nat} {u : IC} {l : List (Nat × IC)} (h : KitsOk K l) (m : l.contains (c, u) = true) : KitAt K c u := by
  induction h with
  | nil => simp at m
  | @cons c1 u1 l a t ih =>
    rw [List.contains_cons, Bool.or_eq_true] at m
    rcases m with m | m
    · have q : (c, u) = (c1, u1) := by simpa using m
      cases q; exact a
    · exact ih m
/-- its class asked by instances -/
structure InsC (K : Frag) (C : Addr) : Prop where
  c : Cls K C
  ha : PySem.W.findIn K (.ref C) "__class__" = some (some (.builtin "object.__class__"))
  hn : PySem.W.specialIn K (.builtin "object.__class__") "__get__" = some (some (.builtin "getset_descriptor.__get__"))
  ht : PySem.W.takesIn K (.builtin "object.__class__") = some true
  hm : PySem.W.mroIn K C (.type "object") = some true
def TyAt (K : Frag) (c : Nat) : Prop := ∃ C, ClsAt K c C ∧ (ExcC K C ∨ InsC K C)
theorem ty_exc {K : Frag} {c : Nat} {C : Addr} (a : PySem.W.nsIn K mainGlobals (clsN c) = some (some (.ref C))) (h : ExcC K C) : ∃ C, ClsAt K c C ∧ ExcC K C := ⟨C, a, h⟩
theorem ty_ins {K : Frag} {c : Nat} {C : Addr} (a : PySem.W.nsIn K mainGlobals (clsN c) = some (some (.ref C))) (h : InsC K C) : ∃ C, ClsAt K c C ∧ InsC K C := ⟨C, a, h⟩
inductive TysOk (K : Frag) : List (Nat × Bool) → Prop
  | nil : TysOk K []
  | exc {c : Nat} {l : List (Nat × Bool)} : (∃ C, ClsAt K c C ∧ ExcC K C) → TysOk K l → TysOk K ((c, true) :: l)
  | ins {c : Nat} {l : List (Nat × Bool)} : (∃ C, ClsAt K c C ∧ InsC K C) → TysOk K l → TysOk K ((c, false) :: l)
theorem TysOk.exc' {K : Frag} {c : Nat} {l : List (Nat × Bool)} (h : TysOk K l) (m : l.contains (c, true) = true) : ∃ C, ClsAt K c C ∧ ExcC K C := by
  induction h with
  | nil => simp at m
  | exc a t ih =>
    rw [List.contains_cons, Bool.or_eq_true] at m
    rcases m with m | m
    · have q := (beq_iff_eq.mp m); cases q; exact a
    · exact ih m
  | ins a t ih =>
    rw [List.contains_cons, Bool.or_eq_true] at m
    rcases m with m | m
    · have q := (beq_iff_eq.mp m); cases q
    · exact ih m
theorem TysOk.ins' {K : Frag} {c : Nat} {l : List (Nat × Bool)} (h : TysOk K l) (m : l.contains (c, false) = true) : ∃ C, ClsAt K c C ∧ InsC K C := by
  induction h with
  | nil => simp at m
  | exc a t ih =>
    rw [List.contains_cons, Bool.or_eq_true] at m
    rcases m with m | m
    · have q := (beq_iff_eq.mp m); cases q
    · exact ih m
  | ins a t ih =>
    rw [List.contains_cons, Bool.or_eq_true] at m
    rcases m with m | m
    · have q := (beq_iff_eq.mp m); cases q; exact a
    · exact ih m
/-- what a value is, for isinstance -/
inductive TyO (K : Frag) (H : Hp) : V → Value → Prop
  | exc {a C : Addr} {oe : Obj} {φ : Heap → Prop} : H a = some (.frz oe (.ext φ)) → oe.cls = .ref C → (∃ vs, oe.data = .fields vs) → (oe.dict = none ∨ ∃ p fs, oe.dict = some p ∧ H p = some (.xd fs)) → ExcC K C → TyO K H (.ref a) (.ref C)
  | ins {a C dx : Addr} {o : Obj} {fs : List (Str × V)} : H a = some (.frz o (.ins C dx fs)) → InsC K C → TyO K H (.ref a) (.ref C)
def rIsO (K : Frag) : List V → Hp → VK → Prop := fun xs H Q => ∃ (x c : V) (t : Value) (b : Bool), xs = [x, c] ∧ TyO K H x t ∧ ((∃ u, ClsV c u ∧ PySem.W.kitOne K t u = some b) ∨ ∃ (tp : Addr) (cs : List V) (us : List Value), c = .ref tp ∧ H tp = some (.tup cs) ∧ Paired ClsV cs us ∧ PySem.W.kitAny K t us = some b) ∧ Q (.bl b) H
section
variable {X : Cx} {pins : List (Addr × Obj)} {σ : St} {H : Hp} {s : Shared}
theorem kit_ofO {x : V} {u t : Value} (I : Inv X pins σ H s) (rx : RelV x u) (ty : TyO X.K H x t) : ∃ P : Heap → Prop, PySem.W.KitX X.K u t P ∧ P s.heap ∧ u ≠ .builtin "__main__.__loader__#opaque" := by
  cases ty with
  | @exc a C oe φ h1 h2 h3 h4 h5 =>
    cases (show u = Value.ref a from rx)
    obtain ⟨g, _⟩ := I.hok a _ h1
    obtain ⟨vs, h3⟩ := h3
    have hcl : (PySem.W.clsIn X.K C).isSome = true := by obtain ⟨cd, hc, _⟩ := PySem.W.any_some h5.hd; rw [hc]; rfl
    have nc : PySem.W.notCls oe = true := by unfold PySem.W.notCls; rw [h3] <;> rfl
    rcases h4 with h4 | ⟨p, fs, h4, hp⟩
    · exact ⟨_, PySem.W.kitx_exc (od := none) hcl h5.hg h5.hk h5.hs h5.ha h5.hn h5.ht h5.hm, ⟨g, h2, nc, by rw [h4]; trivial⟩, fun z => nomatch z⟩
    · obtain ⟨mA, ⟨od, es, ep, q1, q2⟩, _⟩ := (show ObjOk X.prog X.w H s.heap p (.xd fs) from I.hok p _ hp)
      exact ⟨_, PySem.W.kitx_exc (od := some od) hcl h5.hg h5.hk h5.hs h5.ha h5.hn h5.ht h5.hm, ⟨g, h2, nc, by rw [h4]; exact q1⟩, fun z => nomatch z⟩
  | @ins a C dx o fs h1 h2 =>
    cases (show u = Value.ref a from rx)
    obtain ⟨mA, O, _⟩ := ins_getR I.hok (.inr ⟨_, h1⟩)
    obtain ⟨od, J, _⟩ := O.look
    exact ⟨_, PySem.W.kitx_own (h2.c.get _) h2.c.hd h2.ha h2.hn h2.ht h2.hm, J, fun z => nomatch z⟩
theorem call_isO {X : Cx} : CallR X (.builtin "isinstance") (rIsO X.K) := by
  intro pins s σ H xs us Q I r h
  obtain ⟨x, c, t, b, rfl, ty, hh, q⟩ := h
  match us, r with
  | [u1, u2], .cons r1 (.cons r2 .nil) =>
    obtain ⟨P, Z, p, hx⟩ := kit_ofO I r1 ty
    rcases hh with ⟨u, k, e⟩ | ⟨tp, cs, ws, rfl, hT, k, e⟩
    · have e2 := k.eq r2
      subst e2
      exact PySem.W.kia_one Z I.kIn p e hx fun tk => ⟨.bl b, H, I.tok tk, rfl, q⟩
    · cases (show u2 = Value.ref tp from r2)
      have hT' : ObjOk X.prog X.w H s.heap tp (.tup cs) := I.hok tp _ hT
      obtain ⟨_, its, rv, o, h1, h2, n, h3⟩ := hT'
      cases ClsV.all k rv
      obtain ⟨oc, od, dt, sl⟩ := o
      dsimp only at h2 h3
      cases h2; cases h3
      exact PySem.W.kia_tup Z I.kIn p h1 e hx fun tk => ⟨.bl b, H, I.tok tk, rfl, q⟩
end
section
variable {X : Cx} {G : Addr → Prop} {B : Hp} {e b : Expr} {t : ZT} {pos p : Pos}
/-- names of classes -/
inductive ICE (X : Cx) : List Expr → List IC → Prop
  | nil : ICE X [] []
  | own {x : Str} {c : Nat} {C : Addr} {p : Pos} {es : List Expr} {us : List IC} : ClsAt X.K c C → Gl X x → X.mg x = some (.ref C) → (x == ("__debug__" : Str)) = false → starEach (.Name x p :: es) X.env = (false, eval (.Name x p) X.env) :: starEach es X.env → ICE X es us → ICE X (.Name x p :: es) (.o c :: us)
  | ty {x : Str} {n : String} {p : Pos} {es : List Expr} {us : List IC} : Gl X x → X.mg x = none → bootBuiltins x = some (.type n) → x ≠ "__name__" → (x == ("__debug__" : Str)) = false → starEach (.Name x p :: es) X.env = (false, eval (.Name x p) X.env) :: starEach es X.env → ICE X es us → ICE X (.Name x p :: es) (.t n :: us)
theorem ICE.pa : ∀ {es : List Expr} {us : List IC}, ICE X es us → ∃ (cs : List V) (ws : List Value), PA X es (fun _ H Q => Q cs H) ∧ Paired ClsV cs ws ∧ Paired (fun u w => icV X.K u w) us ws ∧ cs.length = us.length
  | _, _, .nil => ⟨[], [], pa_nil, .nil, .nil, rfl⟩
  | _, _, .own (C := C) a g m d s r => by
    obtain ⟨cs, ws, h1, h2, h3, h4⟩ := r.pa
    exact ⟨.ref C :: cs, .ref C :: ws, pa_cons (pe_glob (v := .ref C) g m rfl d) h1 s, .cons (.own C) h2, .cons ⟨C, a, rfl⟩ h3, congrArg (· + 1) h4⟩
  | _, _, .ty (n := n) g m v w d s r => by
    obtain ⟨cs, ws, h1, h2, h3, h4⟩ := r.pa
    exact ⟨.ty n :: cs, .type n :: ws, pa_cons (pe_bltn (v := .ty n) g m v rfl w d) h1 s, .cons (.ty n) h2, .cons rfl h3, congrArg (· + 1) h4⟩
def D.cl : D → Option (Nat × Bool)
  | .exc c _ _ => some (c, true)
  | .obj c _ _ => some (c, false)
  | _ => none
def zIsO (cl : List (Nat × Bool)) (tb : List (Nat × IC)) (us : List IC) (t : ZT) : ZT := fun ss Q => zN t ss fun r s => match cv s r with
  | some d => match d.cl with
    | some c => Sd ((cl.contains c && us.all fun u => tb.contains (c.1, u)) = true) ∧ Q (.d (.bl (us.any (isaC c.1)))) s
    | none => False
  | none => False
theorem isO_ty {K : Frag} {H : Hp} {v : V} {d : D} {c : Nat × Bool} {cl : List (Nat × Bool)} (r : VR K G H v d) (e : d.cl = some c) (h : cl.contains c = true) (ok : TysOk K cl) : ∃ C, ClsAt K c.1 C ∧ TyO K H v (.ref C) := by
  cases d with
  | exc x ns ds =>
    cases e
    cases r with
    | d r =>
      cases r with
      | @exc a C oe φ _ fvs _ _ h1 h2 h3 h4 h5 h6 h7 =>
        obtain ⟨C', g1, g2⟩ := ok.exc' h
        cases ClsAt.eq h1 g1
        exact ⟨C, h1, .exc h2 h3 h4 (h5.imp (fun q => q.1) fun ⟨p, q1, q2⟩ => ⟨p, _, q1, q2⟩) g2⟩
  | obj x ns ds =>
    cases e
    cases r with
    | d r =>
      cases r with
      | @obj a C dx _ o fvs _ _ h1 h2 _ h3 h4 =>
        obtain ⟨C', g1, g2⟩ := ok.ins' h
        cases ClsAt.eq h1 g1
        exact ⟨C, h1, .ins h2 g2⟩
  | _ => cases e
theorem icV_kit {K : Frag} {c : Nat} {C : Addr} {tb : List (Nat × IC)} (hc : ClsAt K c C) (ok : KitsOk K tb) {u : IC} {w : Value} (h : tb.contains (c, u) = true) (r : icV K u w) : PySem.W.kitOne K (.ref C) w = some (isaC c u) := by
  obtain ⟨C1, w1, h1, h2, h3⟩ := ok.at h
  cases ClsAt.eq hc h1
  have : w = w1 := by
    cases u with
    | o x =>
      obtain ⟨D1, q1, rfl⟩ := r
      obtain ⟨D2, q2, rfl⟩ := h2
      rw [ClsAt.eq q1 q2]
    | t n => exact (show w = .type n from r).trans (show w1 = .type n from h2).symm
  subst this; exact h3
theorem icV_any {K : Frag} {c : Nat} {C : Addr} {tb : List (Nat × IC)} (hc : ClsAt K c C) (ok : KitsOk K tb) : ∀ {us : List IC} {ws : List Value}, Paired (fun u w => icV K u w) us ws → (us.all fun u => tb.contains (c, u)) = true → PySem.W.kitAny K (.ref C) ws = some (us.any (isaC c))
  | _, _, .nil, _ => rfl
  | _, _, .cons (l₁ := us) (a := u) r rs, h => by
    rw [List.all_cons, Bool.and_eq_true] at h
    unfold PySem.W.kitAny
    rw [icV_kit hc ok h.1 r, List.any_cons]
    cases isaC c u with
    | true => rfl
    | false => simpa using icV_any hc ok rs h.2
theorem z_isO {cl : List (Nat × Bool)} {tb : List (Nat × IC)} {u : IC} (he : ZE X G B e t) (tys : TysOk X.K cl) (kits : KitsOk X.K tb) (hg : Gl X "isinstance") (hm : X.mg "isinstance" = none) (ice : ICE X [b] [u])
    (hv : bootBuiltins "isinstance" = some (.builtin "isinstance") := by decide +kernel)
    (hs1 : starEach [e, b] X.env = (false, eval e X.env) :: starEach [b] X.env := by rfl) (hpl : (backTo pos (starEach [b] X.env)).any (·.1) = false := by rfl) :
    ZE X G B (.Call (.Name "isinstance" p) [e, b] [] pos) (zIsO cl tb [u] t) := by
  obtain ⟨te, pt, z⟩ := z_n he
  obtain ⟨cs, ws, pa, k, iw, _⟩ := ice.pa
  refine ⟨_, pe_callB call_isO hg hm hv (pa_cons pt pa hs1) (by decide) (by decide) hs1 hpl, fun σ H ss Q R S hw fin => ?_⟩
  refine z σ H ss _ _ S hw fun v H1 r s1 k1 rr q => ?_
  cases e1 : cv s1 r with
  | none => simp only [e1] at q
  | some d =>
    simp only [e1] at q
    cases e2 : d.cl with
    | none => simp only [e2] at q
    | some c =>
      simp only [e2] at q
      have sd := (Bool.and_eq_true _ _).mp q.1.h
      obtain ⟨C, hC, ty⟩ := isO_ty (cv_vr rr.sem (Kp.refl _) rr e1) e2 sd.1 tys
      match cs, ws, k, iw with
      | [cv], [w], .cons kc .nil, .cons r1 .nil =>
        have sd2 : tb.contains (c.1, u) = true := by simpa using sd.2
        refine ⟨v, cv, .ref C, _, rfl, ty, .inl ⟨w, kc, icV_kit hC kits sd2 r1⟩, fin _ H1 _ s1 k1 (.d' rr.sem (.bl _)) ?_⟩
        have e3 : [u].any (isaC c.1) = isaC c.1 u := by simp
        rw [← e3]; exact q.2
theorem z_isOT {cl : List (Nat × Bool)} {tb : List (Nat × IC)} {us : List IC} {es : List Expr} {kk : Nat} {tpos : Pos} (he : ZE X G B e t) (tys : TysOk X.K cl) (kits : KitsOk X.K tb) (hg : Gl X "isinstance") (hm : X.mg "isinstance" = none) (ice : ICE X es us) (hl : us.length ≤ 100 := by decide)
    (hv : bootBuiltins "isinstance" = some (.builtin "isinstance") := by decide +kernel)
    (hs1 : starEach [e, .Tuple es kk tpos] X.env = (false, eval e X.env) :: starEach [.Tuple es kk tpos] X.env := by rfl) (hs2 : starEach [.Tuple es kk tpos] X.env = (false, eval (.Tuple es kk tpos) X.env) :: starEach [] X.env := by rfl) (hpl : (backTo pos (starEach [.Tuple es kk tpos] X.env)).any (·.1) = false := by rfl) :
    ZE X G B (.Call (.Name "isinstance" p) [e, .Tuple es kk tpos] [] pos) (zIsO cl tb us t) := by
  obtain ⟨te, pt, z⟩ := z_n he
  obtain ⟨cs, ws, pa, k, iw, hlen⟩ := ice.pa
  refine ⟨_, pe_callB call_isO hg hm hv (pa_cons pt (pa_cons (pe_tup pa) pa_nil hs2) hs1) (by decide) (by decide) hs1 hpl, fun σ H ss Q R S hw fin => ?_⟩
  refine z σ H ss _ _ S hw fun v H1 r s1 k1 rr q => ?_
  cases e1 : cv s1 r with
  | none => simp only [e1] at q
  | some d =>
    simp only [e1] at q
    cases e2 : d.cl with
    | none => simp only [e2] at q
    | some c =>
      simp only [e2] at q
      have sd := (Bool.and_eq_true _ _).mp q.1.h
      refine ⟨by rw [sizeLine_eq, hlen]; omega, fun tp np => ?_⟩
      have sm : Same H1 (upd H1 tp (.tup cs)) := fun b o e => by rw [upd_ne (ne_of_none e np)]; exact e
      have rr2 : RR X.K G B σ (upd H1 tp (.tup cs)) s1 v r := by
        cases r with
        | d x => exact ⟨rr.1.same sm, rr.2.kp (Kp.of sm)⟩
        | loc i => exact ⟨rr.1.same sm, rr.2⟩
        | new o => cases e1
      obtain ⟨C, hC, ty⟩ := isO_ty (cv_vr rr2.sem (Kp.refl _) rr2 e1) e2 sd.1 tys
      exact ⟨v, .ref tp, .ref C, _, rfl, ty, .inr ⟨tp, cs, ws, rfl, upd_same, k, icV_any hC kits iw sd.2⟩, fin _ _ _ s1 (k1.trans (Kp.of sm)) (.d' rr2.sem (.bl _)) q.2⟩
end

section
variable {X : Cx} {G : Addr → Prop} {B : Hp} {Wz : WZ} {k j : Nat} {e o a b c : Expr} {es : List Expr} {t to : ZT} {pos apos cpos p : Pos}
/-! ## behind a statement a slot's list is frozen -/
theorem ps_fz {st : Stmt} {ts : TS} (i : Nat) (h : PS X st ts) : PS X st (fun D σ H => ts { D with nx := fun σ' H' => D.nx σ' H' ∨ ∃ a u, σ'[i]? = some (some (.ref a)) ∧ H' a = some u ∧ Mut (some u) ∧ ∀ od, D.nx σ' (upd H' a (.frz od u)) } σ H) := by
  refine ⟨fun pins s σ H D I hw => ?_⟩
  refine wpAny_mono (h.run pins s σ H _ I hw) (fun f s1 out => ?_) fun _ _ z => z
  cases f with
  | next =>
    obtain ⟨σ', H', J, q⟩ := out
    rcases q with q | ⟨a, u, _, ha, mu, q⟩
    · exact ⟨σ', H', J, q⟩
    · obtain ⟨od, J2⟩ := J.lock ha mu
      exact ⟨σ', _, J2, q od⟩
  | brk => exact out
  | cont => exact out
  | ret u => exact out
def fzS (i : Nat) (s : SS) (Q : SS → Prop) : Prop := match s[i]? with
  | some (some (.pure _)) => Q s
  | some (some o) => match o.fz with
    | some d => fc (s.set i (some (.pure d))) Q
    | none => Q s
  | _ => Q s
def zFzS (i : Nat) (z : ZTS) : ZTS := fun D ss => z ⟨fun s => fzS i s D.nx, D.rt, D.bk, D.ct⟩ ss
theorem s_fz {st : Stmt} {z : ZTS} (i : Nat) (h : ZS X G B st z) : ZS X G B st (zFzS i z) := by
  obtain ⟨ts, p, r⟩ := h
  refine ⟨_, ps_fz i p, fun σ H ss D D' S hw ok => r σ H ss _ _ S hw ⟨fun σ' H' s k' S' q => ?_, ok.rt, ok.bk, ok.ct⟩⟩
  have q0 : fzS i s D.nx := q
  unfold fzS at q0
  have stay : D.nx s → D'.nx σ' H' := fun h => ok.nx σ' H' s k' S' h
  cases es : s[i]? with
  | none => simp only [es] at q0; exact .inl (stay q0)
  | some oo =>
    cases oo with
    | none => simp only [es] at q0; exact .inl (stay q0)
    | some o =>
      have go : ∀ d, o.fz = some d → D.nx (s.set i (some (.pure d))) → D'.nx σ' H' ∨ ∃ a u, σ'[i]? = some (some (.ref a)) ∧ H' a = some u ∧ Mut (some u) ∧ ∀ od, D'.nx σ' (upd H' a (.frz od u)) := fun d ef hn => by
        obtain ⟨v', as, ev', ro, nd, S2⟩ := S'.take es
        rcases fz_or S2 ro ef with ⟨S3, r3, _⟩ | ⟨a, u, e1, _, e2, mu, q2⟩
        · have S4 := S3.put ev' (.pure r3) List.nodup_nil
          rw [List.set_set] at S4
          exact .inl (ok.nx σ' H' _ k' S4 hn)
        · subst e1
          refine .inr ⟨a, u, ev', e2, mu, fun od => ?_⟩
          obtain ⟨S3, r3, k2⟩ := q2 od
          have S4 := S3.put ev' (.pure r3) List.nodup_nil
          rw [List.set_set] at S4
          exact ok.nx σ' _ _ (k'.trans k2) S4 hn
      cases o with
      | pure d => simp only [es] at q0; exact .inl (stay q0)
      | lst ds => simp only [es, O.fz] at q0; exact go _ rfl ((fc_iff _ _).mp q0)
      | dct ks ds => simp only [es, O.fz] at q0; exact go _ rfl ((fc_iff _ _).mp q0)
      | ins a c ns os =>
        simp only [es] at q0
        cases ef : O.fz (.ins a c ns os) with
        | none => simp only [ef] at q0; exact .inl (stay q0)
        | some d => simp only [ef] at q0; exact go d ef ((fc_iff _ _).mp q0)
theorem ns_ex {K : Frag} {x : Str} {C : Addr} (a : PySem.W.nsIn K mainGlobals x = some (some (.ref C))) : ∃ C, PySem.W.nsIn K mainGlobals x = some (some (.ref C)) := ⟨C, a⟩
mutual
theorem pl_refl : ∀ {n : Nat} {d : D}, d.pl n = true → D.eq d d = true
  | _, .non, _ => rfl
  | _, .bl _, _ => decide_eq_true rfl
  | _, .int _, _ => decide_eq_true rfl
  | _, .str _, _ => decide_eq_true rfl
  | 0, .tup _, h => by simp [D.pl] at h
  | n + 1, .tup ds, h => pls_refl (n := n) (ds := ds) (by simpa [D.pl] using h)
  | 0, .lst _ _, h => by simp [D.pl] at h
  | n + 1, .lst _ ds, h => pls_refl (n := n) (ds := ds) (by simpa [D.pl] using h)
  | _, .obj _ _ _, h => by simp [D.pl] at h
  | _, .ty _, h => by simp [D.pl] at h
  | _, .adr _, h => by simp [D.pl] at h
  | _, .dct _ _ _, h => by simp [D.pl] at h
  | _, .exc _ _ _, h => by simp [D.pl] at h
theorem pls_refl : ∀ {n : Nat} {ds : List D}, D.pls n ds = true → D.eqs ds ds = true
  | _, [], _ => rfl
  | n, d :: ds, h => by
    simp [D.pls] at h
    show (D.eq d d && D.eqs ds ds) = true
    rw [pl_refl h.1, pls_refl h.2]; rfl
end
/-! ## a text n times -/
def zMulS : Z2 := fun x y Q => match x, y with
  | .str a, .int n => Sd (MulOk a n) ∧ Q (.d (.str (Txt.mul a n)))
  | _, _ => False
theorem oz_muls : OpZ X (binaryOp .Mult) zMulS := by
  refine ⟨fun x y H Q => ∃ a n, x = .str a ∧ y = .int n ∧ MulOk a n ∧ Q (.str (Txt.mul a n)) H, fun pins s σ H x y v u Q I rx ry h => ?_, fun G H x y dx dy Q R hx hy q fin => ?_⟩
  · obtain ⟨a, n, rfl, rfl, ok, q⟩ := h
    obtain ⟨t, rfl⟩ := (show ∃ t, v = Value.str a t from rx)
    obtain ⟨t2, rfl⟩ := (show ∃ t, u = Value.int n t from ry)
    exact SB.mul ok fun t' tk => ⟨.str _, H, I.tok tk, ⟨_, rfl⟩, q⟩
  · unfold zMulS at q
    cases dx with
    | str a =>
      cases dy with
      | int n => obtain rfl := hx.s; obtain rfl := hy.i; exact ⟨a, n, rfl, rfl, q.1.h, fin _ H _ (rs_d (.str _)) q.2⟩
      | _ => exact q.elim
    | _ => exact q.elim
end

/-! ## dicts whose keys are written texts -/
def keyD (k : Nat) (ks : List Nat) : Bool := keyB k && ks.all keyB
def keysD : List Nat → Bool
  | [] => true
  | k :: ks => keyB k && !(ks.any (· == k)) && keysD ks
theorem keyN_ne {i j : Nat} (hi : keyB i = true) (hj : keyB j = true) (ne : i ≠ j) : keyN i ≠ keyN j := fun e => ne (keyN_inj (of_decide_eq_true hi) (of_decide_eq_true hj) e)
section
variable {K : Frag} {G : Addr → Prop} {H : Hp}
theorem look_key {k : Nat} : ∀ {ks : List Nat} {ds : List D} {kvs : List (Key × V)} {d : D}, keyD k ks = true → kvs.map (·.1) = ks.map keyN → DRs K G H (kvs.map (·.2)) ds → fldAt k ks ds = some d → ∃ v, valV kvs (keyN k) = some v ∧ DR K G H v d
  | [], ds, kvs, d, _, _, _, h => by cases h
  | n :: ns, [], kvs, d, _, _, _, h => by cases h
  | n :: ns, x :: ds, kvs, d, ok, e, r, h => by
    obtain ⟨p, l', rfl, e1, e2⟩ := map_cons_inv e
    rw [List.map_cons] at r
    cases r with
    | cons r1 r2 =>
      unfold keyD at ok
      rw [List.all_cons, Bool.and_eq_true, Bool.and_eq_true] at ok
      unfold fldAt at h
      cases q : n == k with
      | true =>
        rw [q] at h
        have e3 : n = k := by simpa using q
        subst e3
        have hx : x = d := by simpa using h
        subst hx
        exact ⟨p.2, valV_pos e1, r1⟩
      | false =>
        rw [q] at h
        have ne : n ≠ k := by simpa using q
        obtain ⟨v, hv, rv⟩ := look_key (kvs := l') (by unfold keyD; rw [ok.1, ok.2.2]; rfl) e2 r2 h
        refine ⟨v, ?_, rv⟩
        rw [valV_neg (fun z => keyN_ne ok.2.1 ok.1 ne (e1.symm.trans z))]; exact hv
theorem look_nokey {k : Nat} : ∀ {ks : List Nat} {kvs : List (Key × V)}, keyD k ks = true → kvs.map (·.1) = ks.map keyN → ks.any (· == k) = false → valV kvs (keyN k) = none
  | [], kvs, _, e, _ => by
    have : kvs = [] := by cases kvs with
      | nil => rfl
      | cons _ _ => simp at e
    subst this; rfl
  | n :: ns, kvs, ok, e, h => by
    obtain ⟨p, l', rfl, e1, e2⟩ := map_cons_inv e
    unfold keyD at ok
    rw [List.all_cons, Bool.and_eq_true, Bool.and_eq_true] at ok
    rw [List.any_cons, Bool.or_eq_false_iff] at h
    have ne : n ≠ k := by simpa using h.1
    rw [valV_neg (fun z => keyN_ne ok.2.1 ok.1 ne (e1.symm.trans z))]
    exact look_nokey (by unfold keyD; rw [ok.1, ok.2.2]; rfl) e2 h.2
theorem putN_new {k : Nat} : ∀ {ks : List Nat}, ks.any (· == k) = false → putN k ks = ks ++ [k]
  | [], _ => rfl
  | n :: ns, h => by
    rw [List.any_cons, Bool.or_eq_false_iff] at h
    unfold putN
    rw [h.1]
    show n :: putN k ns = _
    rw [putN_new h.2]; rfl
theorem putD_new {k : Nat} {d : D} : ∀ {ks : List Nat} {ds : List D}, ks.any (· == k) = false → ds.length = ks.length → putD k d ks ds = ds ++ [d]
  | [], [], _, _ => rfl
  | n :: ns, x :: ds, h, l => by
    rw [List.any_cons, Bool.or_eq_false_iff] at h
    unfold putD
    rw [h.1]
    show x :: putD k d ns ds = _
    rw [putD_new h.2 (by simpa using l)]; rfl
  | [], _ :: _, _, l => by simp at l
  | _ :: _, [], _, l => by simp at l
theorem map_no {k : Nat} {v : V} : ∀ {ks : List Nat} {kvs : List (Key × V)}, keyD k ks = true → kvs.map (·.1) = ks.map keyN → ks.any (· == k) = false → kvs.map (fun kv => if kv.1 = keyN k then (kv.1, v) else kv) = kvs
  | [], kvs, _, e, _ => by
    have : kvs = [] := by cases kvs with
      | nil => rfl
      | cons _ _ => simp at e
    subst this; rfl
  | n :: ns, kvs, ok, e, h => by
    obtain ⟨p, l', rfl, e1, e2⟩ := map_cons_inv e
    unfold keyD at ok
    rw [List.all_cons, Bool.and_eq_true, Bool.and_eq_true] at ok
    rw [List.any_cons, Bool.or_eq_false_iff] at h
    have ne : n ≠ k := by simpa using h.1
    rw [List.map_cons, if_neg (fun z => keyN_ne ok.2.1 ok.1 ne (e1.symm.trans z)), map_no (by unfold keyD; rw [ok.1, ok.2.2]; rfl) e2 h.2]
theorem put_key {k : Nat} {v : V} {d : D} (rd : DR K G H v d) {ks : List Nat} {ds : List D} {kvs : List (Key × V)} (ok : keyB k = true) (okd : keysD ks = true) (e : kvs.map (·.1) = ks.map keyN) (r : DRs K G H (kvs.map (·.2)) ds) :
    (putK kvs (keyN k) v).map (·.1) = (putN k ks).map keyN ∧ DRs K G H ((putK kvs (keyN k) v).map (·.2)) (putD k d ks ds) := by
  have all : ∀ {ks : List Nat}, keysD ks = true → ks.all keyB = true := fun {ks} h => by
    induction ks with
    | nil => rfl
    | cons n ns ih =>
      unfold keysD at h
      simp only [Bool.and_eq_true] at h
      rw [List.all_cons, h.1.1, ih h.2]; rfl
  have hl : ds.length = ks.length := by
    have h1 := r.length
    have h2 := congrArg List.length e
    simp only [List.length_map] at h1 h2
    omega
  cases q : ks.any (· == k) with
  | false =>
    have kd : keyD k ks = true := by unfold keyD; rw [ok, all okd]; rfl
    rw [putK_new v (look_nokey kd e q), putN_new q, putD_new q hl]
    refine ⟨by simp [e], ?_⟩
    rw [List.map_append]
    exact r.append (.cons rd .nil)
  | true =>
    -- there already
    have go : ∀ {ks : List Nat} {ds : List D} {kvs : List (Key × V)}, keysD ks = true → kvs.map (·.1) = ks.map keyN → DRs K G H (kvs.map (·.2)) ds → ks.any (· == k) = true →
        (kvs.any fun kv => decide (kv.1 = keyN k)) = true ∧ (kvs.map fun kv => if kv.1 = keyN k then (kv.1, v) else kv).map (·.1) = (putN k ks).map keyN ∧ DRs K G H ((kvs.map fun kv => if kv.1 = keyN k then (kv.1, v) else kv).map (·.2)) (putD k d ks ds) := by
      intro ks
      induction ks with
      | nil => intro ds kvs _ _ _ h; cases h
      | cons n ns ih =>
        intro ds kvs okd e r h
        obtain ⟨p, l', rfl, e1, e2⟩ := map_cons_inv e
        rw [List.map_cons] at r
        match ds, r with
        | x :: ds, .cons r1 r2 =>
          unfold keysD at okd
          simp only [Bool.and_eq_true, Bool.not_eq_true'] at okd
          unfold putN putD
          cases qq : n == k with
          | true =>
            have e3 : n = k := by simpa using qq
            subst e3
            have kd : keyD n ns = true := by unfold keyD; rw [okd.1.1, all okd.2]; rfl
            rw [List.map_cons, if_pos e1, map_no kd e2 okd.1.2]
            refine ⟨by rw [List.any_cons, decide_eq_true e1]; rfl, by simp [e1, e2], .cons rd r2⟩
          | false =>
            have ne : n ≠ k := by simpa using qq
            have h2 : ns.any (· == k) = true := by rw [List.any_cons, qq] at h; exact h
            obtain ⟨a1, a2, a3⟩ := ih okd.2 e2 r2 h2
            have nk : ¬ p.1 = keyN k := fun z => keyN_ne okd.1.1 ok ne (e1.symm.trans z)
            rw [List.map_cons, if_neg nk]
            exact ⟨by rw [List.any_cons, a1, Bool.or_true], by simp only [List.map_cons, a2]; rw [show p.1 = keyN n from e1], .cons r1 a3⟩
    obtain ⟨a1, a2, a3⟩ := go okd e r q
    unfold putK
    rw [if_pos a1]
    exact ⟨a2, a3⟩
end
section
variable {X : Cx} {G : Addr → Prop} {B : Hp} {Wz : WZ} {k j : Nat} {e o a b c : Expr} {es : List Expr} {t to : ZT} {pos apos cpos p : Pos}
/-- {} -/
def zDNew : ZT := fun ss Q => Q (.new (.dct [] [])) ss
theorem z_dnew : ZE X G B (.Dict [] [] pos) zDNew := by
  refine ⟨_, pe_dnewK, fun σ H ss Q R S hw fin => fun p np => ?_⟩
  have sm : Same H (upd H p (.dK [])) := fun b o e => by rw [upd_ne (ne_of_none e np)]; exact e
  exact fin (.ref p) _ (.new (.dct [] [])) ss (Kp.of sm) ⟨[p], S.alloc sm (fun a ha => by simp at ha; rw [ha]; exact np), .dct upd_same rfl .nil, by simp⟩ hw
/-- d[k] -/
def zDGet (k : Nat) (t : ZT) : ZT := fun ss Q => zN t ss fun r s => match cv s r with
  | some (.dct _ ks ds) => match fldAt k ks ds with
    | some d => Sd (keyD k ks = true) ∧ Q (.d d) s
    | none => False
  | _ => False
theorem VR.dk {K : Frag} {H : Hp} {v : V} {m : Nat} {ks : List Nat} {ds : List D} (h : VR K G H v (.dct m ks ds)) : ∃ a kvs, v = .ref a ∧ Rd H a (.dK kvs) ∧ kvs.map (·.1) = ks.map keyN ∧ DRs K G H (kvs.map (·.2)) ds := by
  cases h with
  | d h =>
    cases h with
    | dct0 a g e b => exact ⟨_, _, rfl, .inr ⟨_, a⟩, e, b⟩
    | dct1 a g e b => exact ⟨_, _, rfl, .inr ⟨_, a⟩, e, b⟩
  | k a e b => exact ⟨_, _, rfl, .inl a, e, b⟩
theorem z_dget {s : Str} {jj : Nat} {p1 : Pos} (hu : X.A.units + 1 < cLine) (he : ZE X G B e t) (hk : s = keyT.getD k "?" := by rfl) (hs : NoSl (.Constant (.str s) jj p1) := by exact fun _ _ => rfl) :
    ZE X G B (.Subscript e (.Constant (.str s) jj p1) pos) (zDGet k t) := by
  obtain ⟨te, pt, z⟩ := z_n he
  subst hk
  refine ⟨_, pe_dget hu pt pe_str hs, fun σ H ss Q R S hw fin => ?_⟩
  refine z σ H ss _ _ S hw fun v H1 r s1 k1 rr q => ?_
  cases e1 : cv s1 r with
  | none => simp only [e1] at q
  | some d =>
    cases d with
    | dct m ks ds =>
      simp only [e1] at q
      cases ef : fldAt k ks ds with
      | none => simp only [ef] at q
      | some d =>
        simp only [ef] at q
        obtain ⟨a, kvs, rfl, hr, h2, h3⟩ := (cv_vr rr.sem (Kp.refl _) rr e1).dk
        obtain ⟨w, hw, rw'⟩ := look_key q.1.h h2 h3 ef
        exact ⟨a, w, rfl, .inl ⟨kvs, keyN k, hr, rfl, hw.symm⟩, fin w H1 (.d d) s1 k1 ⟨rr.sem, rw'⟩ q.2⟩
    | _ => simp only [e1] at q
/-- the dict of a slot is written -/
theorem Sm.wrK {K : Frag} {σ : St} {H : Hp} {ss : SS} (S : Sm K G B [] σ H ss) {i : Nat} {ks : List Nat} {ds : List D} (h : ss[i]? = some (some (.dct ks ds))) : ∃ a kvs, σ[i]? = some (some (.ref a)) ∧ H a = some (.dK kvs) ∧ kvs.map (·.1) = ks.map keyN ∧ DRs K G H (kvs.map (·.2)) ds ∧
    ∀ kvs' ks' ds', kvs'.map (·.1) = ks'.map keyN → DRs K G H (kvs'.map (·.2)) ds' → Sm K G B [] σ (upd H a (.dK kvs')) (ss.set i (some (.dct ks' ds'))) ∧ Kp H (upd H a (.dK kvs')) := by
  obtain ⟨v, as, e, r, nd, S1⟩ := S.take h
  cases r with
  | @dct a kvs _ _ h1 h2 h3 =>
    refine ⟨a, kvs, e, h1, h2, h3, fun kvs' ks' ds' e' r' => ?_⟩
    have kp : Kp H (upd H a (.dK kvs')) := Kp.upd h1 trivial
    have S2 : Sm K G B [a] σ (upd H a (.dK kvs')) (ss.set i none) := by
      obtain ⟨A, W⟩ := S1.own
      refine ⟨fun b o eb => ?_, ⟨A, fun j o eb => ?_, W.nd, W.ap, W.fr, W.off⟩, S1.nn, S1.gb, S1.len⟩
      · rw [upd_ne (ne_of_none eb (S1.nn a (by simp)))]
        exact S1.keep b o eb
      · obtain ⟨w, e1, r1⟩ := W.at_ j o eb
        exact ⟨w, e1, r1.kp kp fun b hb => upd_ne fun q => (W.fr j b hb).2 (by simp [q])⟩
    have S3 := S2.put (o := .dct ks' ds') e (.dct upd_same e' (r'.kp kp)) (by simp)
    rw [List.set_set] at S3
    exact ⟨S3, kp⟩
/-- d[k] = e, d a name that owns it -/
def zDPut (i k : Nat) (t : ZT) : ZTS := fun D ss => zF t ss fun d s => match s[i]? with
  | some (some (.dct ks ds)) => Sd ((keyB k && keysD ks && decide (ks.length < 900)) = true) ∧ fc (s.set i (some (.dct (putN k ks) (putD k d ks ds)))) D.nx
  | _ => False
theorem s_dput {i : Nat} {s x : Str} {jj : Nat} {p1 np tp spos : Pos} (hu : X.A.units + 1 < cLine) (he : ZE X G B e t) (hk : s = keyT.getD k "?" := by rfl) (hN : X.N[i]? = some x := by rfl) (hv : Vis X.env.scope x := by first | exact Or.inl rfl | exact Or.inr (Or.inl rfl) | exact Or.inr (Or.inr rfl))
    (hd : (x == ("__debug__" : Str)) = false := by decide) (hcd : (x == ("__classdict__" : Str)) = false := by decide) (hs : swapsWith e (some (.Subscript (.Name x np) (.Constant (.str s) jj p1) tp)) spos.line X.env = pure false := by rfl) :
    ZS X G B (.Assign [.Subscript (.Name x np) (.Constant (.str s) jj p1) tp] e spos) (zDPut i k t) := by
  obtain ⟨te, pt, z⟩ := z_fz he
  subst hk
  refine ⟨_, ps_dput hu (pe_var hN hv hd hcd) pe_str pt hs, fun σ H ss D D' S hw ok => ?_⟩
  refine z σ H ss _ _ S hw fun v H1 d s1 k1 S1 rd q => ?_
  cases es : s1[i]? with
  | none => simp only [es] at q
  | some oo =>
    cases oo with
    | none => simp only [es] at q
    | some o =>
      cases o with
      | dct ks ds =>
        simp only [es] at q
        have sd := q.1.h
        simp only [Bool.and_eq_true] at sd
        obtain ⟨a, kvs, e1, h1, h2, h3, up⟩ := S1.wrK es
        obtain ⟨p1, p2⟩ := put_key rd sd.1.1 sd.1.2 h2 h3
        obtain ⟨S2, k2⟩ := up _ _ _ p1 p2
        have hl : kvs.length < sizeLine := by
          have := congrArg List.length h2
          simp only [List.length_map] at this
          have := of_decide_eq_true sd.2
          rw [sizeLine_eq]; omega
        exact ⟨_, e1, a, _, rfl, .inl ⟨kvs, keyN k, h1, rfl, hl, rfl⟩, ok.nx σ _ _ (k1.trans k2) S2 ((fc_iff _ _).mp q.2)⟩
      | _ => simp only [es] at q
/-! displays -/
def ZPs (X : Cx) (G : Addr → Prop) (B : Hp) (pos : Pos) (keys : List (Option Expr)) (values : List Expr) (ks : List Nat) (ts : ZTDs) : Prop := ∃ trs, PPs X pos keys values trs ∧ ∀ (σ : St) (H : Hp) (ss : SS) (Q : List D → SS → Prop) (R : List (V × V) → Hp → Prop), Sm X.K G B [] σ H ss → ts ss Q →
  (∀ (kvs : List (Key × V)) (H' : Hp) (ds : List D) (ss' : SS), Kp H H' → Sm X.K G B [] σ H' ss' → kvs.map (·.1) = ks.map keyN → DRs X.K G H' (kvs.map (·.2)) ds → Q ds ss' → R (kvs.map fun kv => (kV kv.1, kv.2)) H') → tPairs trs σ H R
theorem zp_nil : ZPs X G B pos [] [] [] zdNil := ⟨_, pps_nil, fun σ H ss Q R S hw fin => fin [] H [] ss (Kp.refl H) S rfl .nil hw⟩
theorem zp_cons {s : Str} {jj : Nat} {p1 : Pos} {keys : List (Option Expr)} {values : List Expr} {ks : List Nat} {ts : ZTDs} {v : Expr} (he : ZE X G B v t) (h : ZPs X G B pos keys values ks ts) (hk : s = keyT.getD k "?" := by rfl) :
    ZPs X G B pos (some (.Constant (.str s) jj p1) :: keys) (v :: values) (k :: ks) (zdCons t ts) := by
  obtain ⟨te, pt, z⟩ := z_fz he
  obtain ⟨trs, pp, r⟩ := h
  subst hk
  refine ⟨_, pps_cons pe_str pt pp, fun σ H ss Q R S hw fin => ?_⟩
  refine z σ H ss _ _ S hw fun w H1 d s1 k1 S1 rd q => ?_
  refine r σ H1 s1 _ _ S1 q fun kvs H2 ds s2 k2 S2 e r2 q2 => ?_
  exact fin ((keyN k, w) :: kvs) H2 (d :: ds) s2 (k1.trans k2) S2 (by simp [e]) (.cons (rd.kp k2) r2) q2
def zDisp (ks : List Nat) (ts : ZTDs) : ZT := fun ss Q => ts ss fun ds s => Sd (keysD ks = true) ∧ Q (.new (.dct ks ds)) s
theorem merge_new : ∀ {ks : List Nat} {kvs : List (Key × V)} {l : List (Key × V)}, keysD ks = true → kvs.map (·.1) = ks.map keyN → (∀ p ∈ l, ∀ q ∈ kvs, p.1 ≠ q.1) → mergeK l kvs = l ++ kvs
  | [], kvs, l, _, e, _ => by
    have : kvs = [] := by cases kvs with
      | nil => rfl
      | cons _ _ => simp at e
    subst this; simp [mergeK]
  | n :: ns, kvs, l, ok, e, h => by
    obtain ⟨p, l', rfl, e1, e2⟩ := map_cons_inv e
    unfold keysD at ok
    simp only [Bool.and_eq_true, Bool.not_eq_true'] at ok
    show mergeK (putK l p.1 p.2) l' = _
    have hn : valV l p.1 = none := by
      unfold valV
      have : (l.find? fun kv => decide (kv.1 = p.1)) = none := List.find?_eq_none.mpr fun x hx => by
        simp only [decide_eq_true_eq]; exact h x hx p List.mem_cons_self
      rw [this]; rfl
    rw [putK_new _ hn, merge_new ok.2 e2 (fun a ha q hq => ?_)]
    · simp
    · rcases List.mem_append.mp ha with ha | ha
      · exact h a ha q (List.mem_cons_of_mem _ hq)
      · simp at ha
        subst ha
        intro z
        have hq2 : q.1 ∈ ns.map keyN := by rw [← e2]; exact List.mem_map_of_mem hq
        obtain ⟨m, hm, em⟩ := List.mem_map.mp hq2
        have hmB : ∀ {ks : List Nat} {m : Nat}, keysD ks = true → m ∈ ks → keyB m = true := fun {ks} => by
          induction ks with
          | nil => intro m _ h; simp at h
          | cons a as ih =>
            intro m ok h
            unfold keysD at ok
            simp only [Bool.and_eq_true] at ok
            rcases List.mem_cons.mp h with rfl | h
            · exact ok.1.1
            · exact ih ok.2 h
        have e3 : p.1 = keyN n := e1
        have e4 : keyN n = keyN m := by rw [← e3, em]; exact z
        have e5 := keyN_inj (of_decide_eq_true ok.1.1) (of_decide_eq_true (hmB ok.2 hm)) e4
        subst e5
        have := List.any_eq_false.mp ok.1.2 n hm
        simp at this
theorem z_disp {keys : List (Option Expr)} {values : List Expr} {ks : List Nat} {ts : ZTDs} (h : ∀ B', ZPs X G B' pos keys values ks ts) (hall : keys.all (·.isSome) = true := by rfl) (hl : keys.length = values.length := by rfl) (h0 : keys ≠ [] := by exact fun z => nomatch z) (h15 : keys.length ≤ 15 := by decide)
    (hk : ks.length ≤ 15 := by decide) : ZE X G B (.Dict keys values pos) (zDisp ks ts) := by
  let trsOk : List (TE × TE) → Prop := fun trs => PPs X pos keys values trs
  obtain ⟨trs0, pp0, _⟩ := h B
  -- a reading that picks its ground when it is asked
  refine ⟨fun σ H Q => ∀ p, H p = none → ∃ (B' : Hp) (ss : SS) (Qz : List D → SS → Prop), Sm X.K G B' [] σ (upd H p (.dK [])) ss ∧ ts ss Qz ∧ ∀ (kvs : List (Key × V)) (H' : Hp) (ds : List D) (ss' : SS), Kp (upd H p (.dK [])) H' → Sm X.K G B' [] σ H' ss' → kvs.map (·.1) = ks.map keyN → DRs X.K G H' (kvs.map (·.2)) ds → Qz ds ss' → H' p = some (.dK []) ∧ Q (.ref p) (upd H' p (.dK (mergeK [] kvs))), ⟨fun pins s σ H Q I hw => ?_⟩, fun σ H ss Q R S hw fin => fun p np => ?_⟩
  · -- the ground is known only for the new dict's own place
    have hn := I.hok.fresh (Nat.le_refl s.heap.objs.size)
    obtain ⟨B', ss, Qz, S, ht, ff⟩ := hw _ hn
    obtain ⟨trs, pp, r⟩ := h B'
    have I1 := I.laid (a := s.heap.objs.size) (o := .dK []) (h' := s.heap.push { cls := .type "dict", data := .dict #[] }) (t' := s.toks) (fun _ _ q => Heap.get?_push_of_some _ q) (Nat.le_refl _) (dk_empty s.heap I.big)
    refine wpAny_Dict_walk (knd := mixKind X.prog X.w) hall hl h0 h15 (thn (pp.run pins _ σ _ _ I1 (r σ _ ss Qz (fun ps H2 => ∃ kvs : List (Key × V), ps = kvs.map (fun kv => (kV kv.1, kv.2)) ∧ kvs.length ≤ 15 ∧ H2 s.heap.objs.size = some (.dK []) ∧ Q (.ref s.heap.objs.size) (upd H2 s.heap.objs.size (.dK (mergeK [] kvs)))) S ht fun kvs H' ds ss' k' S' e' r' q' => ?_)) fun ws s2 ⟨ps, H2, I2, rel, kvs, ep, lk, e, q2⟩ => ?_)
    · obtain ⟨g1, g2⟩ := ff kvs H' ds ss' k' S' e' r' q'
      exact ⟨kvs, rfl, by have := congrArg List.length e'; simp only [List.length_map] at this; omega, g1, g2⟩
    · subst ep
      obtain ⟨rs, c, rk⟩ := carries_of (P := X.prog) (w := X.w) rel
      obtain ⟨z, hd, vs0, r0, dd⟩ := dk_of I2.hok e
      cases r0
      refine ⟨rs, c, dd, fun h' dd' hs => ⟨.ref s.heap.objs.size, _, ?_, rfl, q2⟩⟩
      have hz : (mergeK [] kvs).length ≤ sizeLine := by
        have h1 := length_mergeK kvs []
        rw [List.length_nil] at h1
        rw [sizeLine_eq]; omega
      have hex : ∃ q, h'.get? s.heap.objs.size = some q := let ⟨q, _, _, hq, _⟩ := dd'; ⟨q, hq⟩
      exact d_write I2 (by rw [e]; exact True.intro) hs hex (dk_new hz hd (rk.merge .nil) dd')
  · have sm : Same H (upd H p (.dK [])) := fun b o e => by rw [upd_ne (ne_of_none e np)]; exact e
    have S1 : Sm X.K G B [p] σ (upd H p (.dK [])) ss := S.alloc sm (fun a ha => by simp at ha; rw [ha]; exact np)
    refine ⟨_, ss, _, S1.hide upd_same, hw, fun kvs H' ds ss' k' S' e' r' q' => ?_⟩
    have hp := S'.keep p _ upd_same
    have S2 := S'.shown (S1.nn p (by simp)) S1.gb
    have em : mergeK [] kvs = kvs := by rw [merge_new q'.1.h e' (fun _ h => by simp at h)]; rfl
    have kp : Kp H' (upd H' p (.dK kvs)) := Kp.upd hp trivial
    have S3 : Sm X.K G B [p] σ (upd H' p (.dK kvs)) ss' := by
      obtain ⟨A, W⟩ := S2.own
      refine ⟨fun b o eb => ?_, ⟨A, fun j o eb => ?_, W.nd, W.ap, W.fr, W.off⟩, S2.nn, S2.gb, S2.len⟩
      · rw [upd_ne (ne_of_none eb (S2.nn p (by simp)))]
        exact S2.keep b o eb
      · obtain ⟨w, e1, r1⟩ := W.at_ j o eb
        exact ⟨w, e1, r1.kp kp fun b hb => upd_ne fun q => (W.fr j b hb).2 (by simp [q])⟩
    rw [em]
    refine ⟨hp, fin (.ref p) _ (.new (.dct ks ds)) ss' (((Kp.of sm).trans k').trans kp) ⟨[p], S3, .dct upd_same e' (r'.kp kp), by simp⟩ q'.2⟩
end

/-! ## zip of a tuple and a list -/
def ItTL (K : Frag) (a b : Addr) : It where
  go := fun i H => ∃ (xs ys : List V) (x y : V), (SqT K H a xs ∧ xs[i]? = some x) ∧ SqL K H b ys ∧ ys[i]? = some y
  yld := fun i H v H' => ∃ T x y, (v = .ref T ∧ H T = none ∧ H' = upd H T (.tup [x, y])) ∧ (∀ l, SqT K H a l → l[i]? = some x) ∧ ∀ l, SqL K H b l → l[i]? = some y
  stop := fun i H => ∃ xs ys : List V, (SqT K H a xs ∧ SqL K H b ys) ∧ (i ≤ xs.length ∧ i ≤ ys.length) ∧ (i = xs.length ∨ i = ys.length)
theorem turnTL {P : Program} {w : World} {K : Frag} {es : List Expr} {kx : Nat} {tp : Pos} {a b z A B i1 i2 : Addr} (S : ZipSep2 z A B i1 i2 [i1, a] [i2, b]) (na : a ≠ i1) (nb : b ≠ i2) :
    Turn P w K (.Tuple es kx tp) (ItTL K a b) [z, A, B, i1, i2] z (fun i h => IsZip h z A B .none ∧ IsTupOf2 h A (.ref i1) (.ref i2) ∧ (∃ x y, IsTupOf2 h B x y) ∧ h.IsTupleIter i1 a i ∧ h.IsListIter i2 b i) := by
  have fpc : ∀ {c : Addr}, c ∈ [z, A, B, i1, i2] → c = z ∨ c = A ∨ c = B ∨ c = i1 ∨ c = i2 := fun h => by simpa using h
  refine ⟨by simp, fun i h st c hc => ?_, fun i h h' st k => ?_, ?_, ?_, fun _ i s Q E st h => wpAny_pyIter_zip st.1 h⟩
  · obtain ⟨q1, q2, ⟨x, y, q3⟩, ⟨o1, q4, _, d1⟩, ⟨o2, q5, _, d2⟩⟩ := st
    rcases fpc hc with rfl | rfl | rfl | rfl | rfl
    · exact ⟨_, q1, fun _ e => nomatch e⟩
    · exact ⟨_, q2, fun _ e => nomatch e⟩
    · exact ⟨_, q3, fun _ e => nomatch e⟩
    · exact ⟨o1, q4, fun _ e => by rw [d1] at e; cases e⟩
    · exact ⟨o2, q5, fun _ e => by rw [d2] at e; cases e⟩
  · obtain ⟨q1, q2, ⟨x, y, q3⟩, q4, q5⟩ := st
    exact ⟨k _ (by simp) _ q1, k _ (by simp) _ q2, ⟨x, y, k _ (by simp) _ q3⟩, q4.at fun o e => k _ (by simp) o e, q5.at fun o e => k _ (by simp) o e⟩
  · intro X e1 e2 e3 calm i pins s σ H E I free st can
    subst e1 e2 e3
    obtain ⟨q1, q2, ⟨x0, y0, q3⟩, q4, q5⟩ := st
    obtain ⟨xs, ys, x, y, ⟨hx, ex⟩, hy, ey⟩ := can
    obtain ⟨l1, r1, p1, _⟩ := I.tuple hx
    obtain ⟨l2, r2, p2, _⟩ := I.list hy
    obtain ⟨u1, f1, g1⟩ := r1.get ex
    obtain ⟨u2, f2, g2⟩ := r2.get ey
    have hh : X.A.in1.handled = none := I.ok.hd calm
    have n1 : i < l1.toArray.size := by have := (List.getElem?_eq_some_iff.mp f1).1; simpa using this
    have n2 : i < l2.toArray.size := by have := (List.getElem?_eq_some_iff.mp f2).1; simpa using this
    refine wpAny_pyNext_zipD2_item S (Draws.tuple hh i1 a na l1.toArray) (Draws.list hh i2 b nb l2.toArray) q1 q2 q3 ⟨q4, p1⟩ ⟨q5, p2.isList⟩ n1 n2 fun v1 v2 h' tk w1 w2 z' b' t1 t2 nt hs hk => ?_
    have w1' : v1 = u1 := by
      have w1 : l1.toArray[i]? = some v1 := w1
      rw [List.getElem?_toArray, f1] at w1; cases w1; rfl
    have w2' : v2 = u2 := by
      have w2 : l2.toArray[i]? = some v2 := w2
      rw [List.getElem?_toArray, f2] at w2; cases w2; rfl
    subst w1' w2'
    refine ⟨_, rfl, wpAny_letOwnedTupleGo_zip (s := ⟨h', s.gens, s.drawn, tk, s.os⟩) z' fun h2 z2 sb => ?_⟩
    have zlt : z < s.heap.objs.size := Heap.lt_size q1
    have laid : h2.get? s.heap.objs.size = some { cls := .type "tuple", data := .seq #[v1, v2] } := (sb.2 _ (Nat.ne_of_gt zlt)).trans nt
    have fresh := I.hok.fresh (Nat.le_refl s.heap.objs.size)
    have I1 : Inv X pins σ (upd H s.heap.objs.size (.tup [x, y])) { s with heap := h2, toks := tk } :=
      I.turnedNew (ch := [z, A, B, i1, i2]) (fun c o off q => by
        have m : ∀ {d}, d ∈ [z, A, B, i1, i2] → c ≠ d := fun hd e => off (by rw [e]; exact hd)
        rw [sb.2 c (m (by simp))]
        exact hk c o (m (by simp)) (m (by simp)) (m (by simp)) (m (by simp)) q) free (Nat.le_refl _)
        ⟨by show 2 ≤ sizeLine; rw [sizeLine_eq]; decide, [v1, v2], .cons g1 (.cons g2 .nil), ⟨_, laid, rfl, _, rfl⟩⟩
    have i1z : i1 ≠ z := fun e => S.zi1 e.symm
    have i2z : i2 ≠ z := fun e => S.zi2 e.symm
    refine ⟨.ref s.heap.objs.size, _, I1, rfl, ⟨_, x, y, ⟨rfl, fresh, rfl⟩, fun l hl => by rw [I.tuple_inj hl hx]; exact ex, fun l hl => by rw [I.list_inj hl hy]; exact ey⟩, ⟨z2, ?_, ⟨v1, v2, ?_⟩, ?_, ?_⟩, fun c hc => ?_⟩
    · exact (sb.2 _ S.TIz).trans (hk _ _ S.TIz S.TITO S.TIi1 S.TIi2 q2)
    · exact (sb.2 _ S.TOz).trans b'
    · exact t1.1.at fun o e => (sb.2 _ i1z).trans e
    · exact t2.1.at fun o e => (sb.2 _ i2z).trans e
    · have lt : c < s.heap.objs.size := by
        rcases fpc hc with rfl | rfl | rfl | rfl | rfl
        · exact zlt
        · exact Heap.lt_size q2
        · exact Heap.lt_size q3
        · obtain ⟨_, e, _⟩ := q4; exact Heap.lt_size e
        · obtain ⟨_, e, _⟩ := q5; exact Heap.lt_size e
      rw [upd_ne (Nat.ne_of_lt lt)]
      exact (free c hc).1
  · intro X e1 e2 e3 calm i pins s σ H E I free st over
    subst e1 e2 e3
    obtain ⟨q1, q2, ⟨x0, y0, q3⟩, q4, q5⟩ := st
    obtain ⟨xs, ys, ⟨hx, hy⟩, ⟨m1, m2⟩, en⟩ := over
    obtain ⟨l1, r1, p1, _⟩ := I.tuple hx
    obtain ⟨l2, r2, p2, _⟩ := I.list hy
    have hh : X.A.in1.handled = none := I.ok.hd calm
    have c1 : l1.toArray.size = xs.length := by rw [List.size_toArray]; exact r1.length.symm
    have c2 : l2.toArray.size = ys.length := by rw [List.size_toArray]; exact r2.length.symm
    refine wpAny_pyNext_zipD2_end S (Draws.tuple hh i1 a na l1.toArray) (Draws.list hh i2 b nb l2.toArray) q1 q2 q3 ⟨q4, p1⟩ ⟨q5, p2.isList⟩ (by omega) (by omega) (by omega) fun h' tk hk => ⟨rfl, I.turnedL (ch := [z, A, B, i1, i2]) (fun c o off q => ?_) free⟩
    have m : ∀ {d}, d ∈ [z, A, B, i1, i2] → c ≠ d := fun hd e => off (by rw [e]; exact hd)
    exact hk c o (m (by simp)) (m (by simp)) (m (by simp)) (m (by simp)) q
def iZipTL (K : Frag) (ta : TA) : TI := fun σ H R => ta σ H fun vs H1 => ∃ a b xs ys, vs = [.ref a, .ref b] ∧ SqT K H1 a xs ∧ SqL K H1 b ys ∧ R (ItTL K a b) H1
theorem pi_zipTL {X : Cx} {e e2 : Expr} {ta : TA} {p pos tp : Pos} {es : List Expr} {kx : Nat} (hg : Gl X "zip") (hm : X.mg "zip" = none) (ha : PA X [e, e2] ta)
    (hs : starEach [e, e2] X.env = (false, eval e X.env) :: starEach [e2] X.env := by rfl) (hpl : (backTo pos (starEach [e2] X.env)).any (·.1) = false := by rfl) :
    PI X (.Tuple es kx tp) (.Call (.Name "zip" p) [e, e2] [] pos) (iZipTL X.K ta) := by
  refine ⟨fun pins s σ H R I h => ?_⟩
  refine PyProof.Rows.Call_ (ld_blt I hg hm PyProof.Rows.boot_zip (PyProof.Rows.callWith_type1 (thn (ha.run pos pins s σ H _ I h) fun us s1 ⟨vs, H1, I1, rel, a, b, xs, ys, ev, hx, hy, q⟩ => ?_) hs hpl))
  subst ev
  cases rel with
  | cons r1 rr =>
   cases rr with
   | cons r2 rr =>
    cases rr
    cases r1
    cases r2
    obtain ⟨l1, _, p1, _⟩ := I1.tuple hx
    obtain ⟨l2, _, p2, _⟩ := I1.list hy
    have la : a < s1.heap.objs.size := by obtain ⟨_, e, _⟩ := p1; exact Heap.lt_size e
    have lb : b < s1.heap.objs.size := p2.lt
    obtain ⟨N, eN⟩ : ∃ N, N = s1.heap.objs.size := ⟨_, rfl⟩
    have h1 : ∀ c ∈ [a], c < N := fun c hc => by
      rw [List.mem_singleton] at hc
      rw [hc, eN]; exact la
    have h2 : ∀ c ∈ [b], c < N := fun c hc => by
      rw [List.mem_singleton] at hc
      rw [hc, eN]; exact lb
    have T := turnTL (P := X.prog) (w := X.w) (K := X.K) (es := es) (kx := kx) (tp := tp) (zip_sep2 (N := N) (fp1 := [a]) (fp2 := [b]) h1 h2) (by rw [eN]; exact Nat.ne_of_lt la) (by rw [eN]; exact Nat.ne_of_lt (Nat.lt_succ_of_lt lb))
    refine zip_begins2 (begins_tuple a l1.toArray) (begins_list b l2.toArray) p1 p2.isList fun h' z1 z2 z3 z4 z5 sz hk => wpAny_pyIter_zip z1 ?_
    have I2 : Inv X pins σ H1 { s1 with heap := h' } := I1.kept (t' := s1.toks) hk
    rw [← eN] at z1 z2 z3 z4 z5 ⊢
    have fp : ∀ c ∈ [N + 4, N + 2, N + 3, N, N + 1], FpOk X pins H1 c := fun c hc => by
      have le : s1.heap.objs.size ≤ c := by
        rw [← eN]
        simp only [List.mem_cons, List.not_mem_nil, or_false] at hc
        omega
      exact I1.fpOk le (I1.hok.fresh le)
    have st : IsZip h' (N + 4) (N + 2) (N + 3) .none ∧ IsTupOf2 h' (N + 2) (.ref N) (.ref (N + 1)) ∧ (∃ x y, IsTupOf2 h' (N + 3) x y) ∧ h'.IsTupleIter N a 0 ∧ h'.IsListIter (N + 1) b 0 := ⟨z1, z2, ⟨_, _, z3⟩, ⟨_, z4, rfl, rfl⟩, ⟨_, z5, rfl, rfl⟩⟩
    exact ⟨_, _, _, _, H1, rfl, I2, T, st, fp, q⟩
section
variable {X : Cx} {G : Addr → Prop} {B : Hp} {a b : Expr} {ts : ZTDs} {pos p : Pos}
theorem itok_zipTL {K : Frag} {H : Hp} {a b : Addr} {xs ys : List V} {ds es : List D} (h : ∀ H1, Kp H H1 → SqT K H1 a xs) (h' : ∀ H1, Kp H H1 → SqL K H1 b ys) (r : DRs K G H xs ds) (r' : DRs K G H ys es) : ItOk K G (ItTL K a b) (zipD ds es) H := by
  have hl : (zipD ds es).length = min ds.length es.length := by unfold zipD; rw [List.length_zipWith]
  have l1 := r.length
  have l2 := r'.length
  refine ⟨fun H1 k i hi => ?_, fun H1 k i hi hi2 => ⟨xs, ys, ⟨h H1 k, h' H1 k⟩, by omega, by omega⟩⟩
  rw [hl] at hi
  have i1 : i < xs.length := by omega
  have i2 : i < ys.length := by omega
  refine ⟨⟨xs, ys, xs[i], ys[i], ⟨h H1 k, List.getElem?_eq_getElem i1⟩, h' H1 k, List.getElem?_eq_getElem i2⟩, fun v H2 y => ?_⟩
  obtain ⟨T, x, y, ⟨rfl, n, rfl⟩, hx, hy⟩ := y
  obtain ⟨d, e1, rd⟩ := r.get' (hx xs (h H1 k))
  obtain ⟨d', e2, rd'⟩ := r'.get' (hy ys (h' H1 k))
  obtain ⟨sm, rt⟩ := tupH n (rd.kp k) (rd'.kp k)
  exact ⟨sm, _, by unfold zipD; rw [List.getElem?_zipWith, e1, e2], rt⟩
def ziZipTL (ts : ZTDs) : ZTI := fun ss Q => ts ss fun ds s => match ds with
  | [.tup xs, .lst _ ys] => Q (zipD xs ys) s
  | _ => False
theorem zi_zipTL {elts : List Expr} {kk : Nat} {tpos : Pos} (hm : X.mg "zip" = none) (ha : ZDs X G B [a, b] ts) (hg : Gl X "zip" := by rfl) (hs : starEach [a, b] X.env = (false, eval a X.env) :: starEach [b] X.env := by rfl) (hpl : (backTo pos (starEach [b] X.env)).any (·.1) = false := by rfl) :
    ZIt X G B (.Tuple elts kk tpos) (.Call (.Name "zip" p) [a, b] [] pos) (ziZipTL ts) := by
  obtain ⟨te, pa, r⟩ := ha
  refine ⟨_, pi_zipTL hg hm pa hs hpl, fun σ H ss Q R S hw fin => ?_⟩
  refine r σ H ss _ _ S hw fun vs H1 ds s1 k1 S1 rs q => ?_
  match ds, vs, rs, q with
  | [.tup xs, .lst m' ys], [v, v'], .cons r1 (.cons r2 .nil), q =>
    cases r1 with
    | @tup a ws _ h1 h2 =>
      obtain ⟨b, us, rfl, g1, g2⟩ := r2.lq
      exact ⟨a, b, ws, us, rfl, h1, g1 H1 (Kp.refl _), fin _ H1 _ s1 k1 S1 (itok_zipTL (fun H1 k => sqT_kp k h1) g1 h2 g2) q⟩
end
/-! ## list(text), sorted(text) -/
section
variable {X : Cx}
theorem signs_are {z : Str} {acc : Array Value} (h : ItemsOf (SignAt z) acc z.cps.size) : PyProof.Rows.StrsAre acc.toList (z.cps.toList.map fun c => (⟨#[c]⟩ : Str)) := by
  refine strs_at (by rw [Array.length_toList, h.1, List.length_map, Array.length_toList]) fun j v e => ?_
  obtain ⟨c, u, hc, rfl⟩ := h.2 j v (by rw [← Array.getElem?_toList]; exact e)
  exact ⟨⟨#[c]⟩, u, by rw [List.getElem?_map, Array.getElem?_toList, hc]; rfl, rfl⟩
def sgs (z : Str) : List Str := z.cps.toList.map fun c => ⟨#[c]⟩
theorem sgs_len (z : Str) : (sgs z).length = z.length := by unfold sgs; rw [List.length_map, Array.length_toList]; rfl
theorem call_listS (calm : X.calm = true) : CallR X (.type "list") (fun xs H Q => ∃ z : Str, xs = [.str z] ∧ z.length ≤ sizeLine ∧ ∀ p, H p = none → Q (.ref p) (upd H p (.lst ((sgs z).map V.str)))) := by
  intro pins s σ H xs us Q I r hq
  obtain ⟨z, rfl, hz, q⟩ := hq
  obtain ⟨u, rfl, rx⟩ := vals1 r
  obtain ⟨t, rfl⟩ := (show ∃ t, u = Value.str z t from rx)
  refine call_list_str (I.ok.hd calm) z t (fun h' tk acc c' hk laid items => ?_) hz
  exact ⟨.ref _, upd H s.heap.objs.size (.lst ((sgs z).map V.str)), I.laid (t' := tk) hk (Nat.le_refl _)
    ⟨by rw [List.length_map, sgs_len]; exact hz, acc.toList, c', vals_of_strs (signs_are items), by rw [Array.toArray_toList]; exact laid⟩, rfl, q _ (I.hok.fresh (Nat.le_refl _))⟩
theorem call_sortedX (calm : X.calm = true) : CallR X (.builtin "sorted") (fun xs H Q => ∃ z : Str, xs = [.str z] ∧ z.length < 64 ∧ ∀ ys p, ys.Perm (sgs z) → PyProof.Rows.sortedS ys = true → H p = none → Q (.ref p) (upd H p (.lst (ys.map V.str)))) := by
  intro pins s σ H xs us Q I r hq
  obtain ⟨z, rfl, hz, q⟩ := hq
  obtain ⟨u, rfl, rx⟩ := vals1 r
  obtain ⟨t, rfl⟩ := (show ∃ t, u = Value.str z t from rx)
  have hz2 : z.cps.size < 64 := hz
  refine Calls.call_function_entry PyProof.Rows.kind_sorted PyProof.Rows.plain_sorted PyProof.Rows.entry_sorted (PyProof.Rows.args_sorted1 _) ?_
  unfold Builtin.«sorted»
  refine wpAny_bind (m := checkCount "sorted" 1 1 _) (wpAny_pure ?_)
  have hh : X.A.in1.handled = none := I.ok.hd calm
  refine wpAny_bind (wpAny_collect_str hh z t (fun s1 acc hk eg ed eo items => ?_) (by rw [sizeLine_eq]; omega))
  obtain ⟨h1, g1, d1, t1, o1⟩ := s1
  dsimp only at eg ed eo hk
  subst eg ed eo
  have la : acc.toList.length = z.cps.size := by rw [Array.length_toList]; exact items.1
  have ss := signs_are items
  have J : Inv X pins σ H { s with heap := h1, toks := t1 } := I.kept hk
  refine wpAny_bind (wpAny_newList ?_ (by rw [la, sizeLine_eq]; omega))
  have at1 : (h1.push (PyProof.Rows.seqObj "list" acc.toList.toArray 0)).get? h1.objs.size = some (PyProof.Rows.seqObj "list" acc.toList.toArray 0) := Heap.get?_push_size _ rfl
  show wpAny _ _ _ _ _ { s with heap := h1.push (PyProof.Rows.seqObj "list" acc.toList.toArray 0), toks := t1 }
  refine wpAny_bind (wpAny_holding (wpAny_call_entry PyProof.Rows.slot_list_sort ⟨_, at1, rfl⟩ PyProof.Rows.entry_list_sort
    (PyProof.Rows.list_sort_treeK PyProof.Rows.strKind_oneLt (s := { s with heap := h1.push (PyProof.Rows.seqObj "list" acc.toList.toArray 0), toks := t1 }) at1 ss.keysOf (fun a b rest e => PyProof.Rows.keyKind_strs (by rw [← e]; exact ss)) (by rw [la]; exact hz2) fun st sp so => ⟨_, rfl, ?_⟩)
    (PyProof.Rows.args_list_sort _)))
  obtain ⟨ys, y1, y2, y3⟩ := PyProof.Rows.sorted_out_str ss sp so
  obtain ⟨e', he'⟩ := PyProof.Rows.sortedHeap_at (vs := acc.toList) (out := (PyProof.Rows.arrOf st).map (·.2)) at1
  have ly : (ys.map V.str).length ≤ sizeLine := by
    have := sgs_len z
    rw [List.length_map, y2.length_eq]
    show (sgs z).length ≤ _
    rw [this, sizeLine_eq]; omega
  refine wpAny_pure ⟨_, rfl, .ref h1.objs.size, upd H h1.objs.size (.lst (ys.map V.str)), J.laid (t' := t1) (fun b u e => ?_) (Nat.le_refl _)
    ⟨ly, ((PyProof.Rows.arrOf st).map (·.2)).toList, e', vals_of_strs y1, by rw [Array.toArray_toList]; exact he'⟩, rfl, q ys _ y2 y3 (J.hok.fresh (Nat.le_refl _))⟩
  have lb : b < h1.objs.size := Heap.lt_size e
  rw [PyProof.Rows.sortedHeap_old (Nat.ne_of_lt lb) (by rw [PyProof.Rows.size_push']; exact Nat.lt_succ_of_lt lb)]
  exact Heap.get?_push_of_some _ e
def zListSC : ZL := fun ds Q => match ds with
  | [.str z] => Sd (z.length ≤ sizeLine) ∧ Q (.new (.lst ((sgs z).map D.str)))
  | [.lst m xs] => zListC [.lst m xs] Q
  | [.tup xs] => zListC [.tup xs] Q
  | _ => False
theorem cz_listS (calm : X.calm = true) : CalZ X (.type "list") zListSC := by
  obtain ⟨r0, h0, k0⟩ := (cz_list : CalZ X (.type "list") zListC)
  refine ⟨_, (call_listS calm).or h0, fun G H vs ds Q R h q fin => ?_⟩
  match ds, q with
  | [.str z], q =>
    obtain ⟨v, rfl, r⟩ := h.one
    obtain rfl := r.s
    exact .inl ⟨z, rfl, q.1.h, fun p np => fin _ _ _ (rs_new np (DRs_strs _)) q.2⟩
  | [.lst m xs], q => exact .inr (k0 G H vs _ Q R h q fin)
  | [.tup xs], q => exact .inr (k0 G H vs _ Q R h q fin)
def zSortedSC : ZL := fun ds Q => ∃ z : Str, ds = [.str z] ∧ Sd (z.length < 64) ∧ ∀ ys : List Str, ys.Perm (sgs z) → PyProof.Rows.sortedS ys = true → Q (.new (.lst (ys.map D.str)))
theorem cz_sortedS (calm : X.calm = true) : CalZ X (.builtin "sorted") zSortedSC := by
  refine ⟨_, call_sortedX calm, fun G H vs ds Q R h q fin => ?_⟩
  obtain ⟨z, rfl, hz, q⟩ := q
  obtain ⟨v, rfl, r⟩ := h.one
  obtain rfl := r.s
  exact ⟨z, rfl, hz.h, fun ys p h1 h2 np => fin _ _ _ (rs_new np (DRs_strs _)) (q ys h1 h2)⟩
end

section
variable {X : Cx} {G : Addr → Prop} {B : Hp} {Wz : WZ} {k j : Nat} {e o a b c : Expr} {es : List Expr} {t to : ZT} {pos apos cpos p : Pos}
/-! ## dicts by a name's text -/
theorem DR.str' {K : Frag} {H : Hp} {v : V} {z : Str} (h : DR K G H v (.str z)) : v = .str z := by cases h; rfl
/-- d[n], n a name that holds a text -/
def zDGetV (j : Nat) (t : ZT) : ZT := fun ss Q => zN t ss fun r s => match s[j]? with
  | some (some (.pure (.str z))) => match cv s r with
    | some (.dct _ ks ds) => ∃ k, Sd (z = keyT.getD k "?") ∧ (match fldAt k ks ds with
      | some d => Sd (keyD k ks = true) ∧ Q (.d d) s
      | none => False)
    | _ => False
  | _ => False
theorem z_dgetV {x : Str} {np : Pos} (j : Nat) (hu : X.A.units + 1 < cLine) (he : ZE X G B e t) (hN : X.N[j]? = some x := by rfl) (hv : Vis X.env.scope x := by first | exact Or.inl rfl | exact Or.inr (Or.inl rfl) | exact Or.inr (Or.inr rfl))
    (hd : (x == ("__debug__" : Str)) = false := by decide) (hcd : (x == ("__classdict__" : Str)) = false := by decide) (hs : NoSl (.Name x np) := by exact fun _ _ => rfl) :
    ZE X G B (.Subscript e (.Name x np) pos) (zDGetV j t) := by
  obtain ⟨te, pt, z⟩ := z_n he
  refine ⟨_, pe_dget hu pt (pe_var hN hv hd hcd) hs, fun σ H ss Q R S hw fin => ?_⟩
  refine z σ H ss _ _ S hw fun v H1 r s1 k1 rr q => ?_
  cases ej : s1[j]? with
  | none => simp only [ej] at q
  | some oo =>
    cases oo with
    | none => simp only [ej] at q
    | some o =>
      cases o with
      | pure dj =>
        cases dj with
        | str zz =>
          simp only [ej] at q
          obtain ⟨vj, evj, rj⟩ := rr.sem.pure ej
          cases rj.str'
          cases e1 : cv s1 r with
          | none => simp only [e1] at q
          | some d =>
            cases d with
            | dct m ks ds =>
              simp only [e1] at q
              obtain ⟨k, ek, q⟩ := q
              have ek := ek.h
              cases ef : fldAt k ks ds with
              | none => simp only [ef] at q
              | some d =>
                simp only [ef] at q
                obtain ⟨a, kvs, rfl, hr, h2, h3⟩ := (cv_vr rr.sem (Kp.refl _) rr e1).dk
                obtain ⟨w, hw, rw'⟩ := look_key q.1.h h2 h3 ef
                exact ⟨_, evj, a, w, rfl, .inl ⟨kvs, keyN k, hr, by rw [ek]; rfl, hw.symm⟩, fin w H1 (.d d) s1 k1 ⟨rr.sem, rw'⟩ q.2⟩
            | _ => simp only [e1] at q
        | _ => simp only [ej] at q
      | _ => simp only [ej] at q
/-- d[n] = e, d a name that owns it, n a name that holds a text -/
def zDPutV (i j : Nat) (t : ZT) : ZTS := fun D ss => zF t ss fun d s => match s[j]? with
  | some (some (.pure (.str z))) => match s[i]? with
    | some (some (.dct ks ds)) => ∃ k, Sd (z = keyT.getD k "?") ∧ Sd ((keyB k && keysD ks && decide (ks.length < 900)) = true) ∧ fc (s.set i (some (.dct (putN k ks) (putD k d ks ds)))) D.nx
    | _ => False
  | _ => False
theorem s_dputV {i j : Nat} {x y : Str} {np np2 tp spos : Pos} (hu : X.A.units + 1 < cLine) (he : ZE X G B e t) (hN : X.N[i]? = some x := by rfl) (hv : Vis X.env.scope x := by first | exact Or.inl rfl | exact Or.inr (Or.inl rfl) | exact Or.inr (Or.inr rfl))
    (hd : (x == ("__debug__" : Str)) = false := by decide) (hcd : (x == ("__classdict__" : Str)) = false := by decide)
    (hN2 : X.N[j]? = some y := by rfl) (hv2 : Vis X.env.scope y := by first | exact Or.inl rfl | exact Or.inr (Or.inl rfl) | exact Or.inr (Or.inr rfl))
    (hd2 : (y == ("__debug__" : Str)) = false := by decide) (hcd2 : (y == ("__classdict__" : Str)) = false := by decide) (hs : swapsWith e (some (.Subscript (.Name x np) (.Name y np2) tp)) spos.line X.env = pure false := by rfl) :
    ZS X G B (.Assign [.Subscript (.Name x np) (.Name y np2) tp] e spos) (zDPutV i j t) := by
  obtain ⟨te, pt, z⟩ := z_fz he
  refine ⟨_, ps_dput hu (pe_var hN hv hd hcd) (pe_var hN2 hv2 hd2 hcd2) pt hs, fun σ H ss D D' S hw ok => ?_⟩
  refine z σ H ss _ _ S hw fun v H1 d s1 k1 S1 rd q => ?_
  cases ej : s1[j]? with
  | none => simp only [ej] at q
  | some oo =>
    cases oo with
    | none => simp only [ej] at q
    | some o =>
      cases o with
      | pure dj =>
        cases dj with
        | str zz =>
          simp only [ej] at q
          obtain ⟨vj, evj, rj⟩ := S1.pure ej
          cases rj.str'
          cases es : s1[i]? with
          | none => simp only [es] at q
          | some oo =>
            cases oo with
            | none => simp only [es] at q
            | some o =>
              cases o with
              | dct ks ds =>
                simp only [es] at q
                obtain ⟨k, ek, q⟩ := q
                have ek := ek.h
                have sd := q.1.h
                simp only [Bool.and_eq_true] at sd
                obtain ⟨a, kvs, e1, h1, h2, h3, up⟩ := S1.wrK es
                obtain ⟨p1, p2⟩ := put_key rd sd.1.1 sd.1.2 h2 h3
                obtain ⟨S2, k2⟩ := up _ _ _ p1 p2
                have hl : kvs.length < sizeLine := by
                  have := congrArg List.length h2
                  simp only [List.length_map] at this
                  have := of_decide_eq_true sd.2
                  rw [sizeLine_eq]; omega
                exact ⟨_, e1, _, evj, a, _, rfl, .inl ⟨kvs, keyN k, h1, by rw [ek]; rfl, hl, rfl⟩, ok.nx σ _ _ (k1.trans k2) S2 ((fc_iff _ _).mp q.2)⟩
              | _ => simp only [es] at q
        | _ => simp only [ej] at q
      | _ => simp only [ej] at q
/-! ## methods of a list that has just been made -/
def zMetN0 (z : ZMt) (t : ZT) : ZT := fun ss Q => t ss fun r s => match r with
  | .new (.lst ds) => z ds [] fun d _ => Q (.d d) s
  | _ => False
def zMetN1 (z : ZMt) (t : ZT) (i : Int) : ZT := fun ss Q => t ss fun r s => match r with
  | .new (.lst ds) => z ds [.int i] fun d _ => Q (.d d) s
  | _ => False
theorem RR.newl {K : Frag} {σ : St} {H : Hp} {ss : SS} {v : V} {ds : List D} (h : RR K G B σ H ss v (.new (.lst ds))) : ∃ a xs, v = .ref a ∧ H a = some (.lst xs) ∧ DRs K G H xs ds ∧ ∀ ys, Sm K G B [] σ (upd H a (.lst ys)) ss ∧ Kp H (upd H a (.lst ys)) := by
  obtain ⟨as, S, r, nd⟩ := h
  cases r with
  | @lst a xs _ h1 h2 => exact ⟨a, xs, rfl, h1, h2, fun ys => ⟨(S.wrN h1).1.weak, (S.wrN h1).2⟩⟩
theorem z_metN0 {name : Str} {id : String} {z : ZMt} (hz : MtZ X id z) (pa : PlainAttrs "list") (slot : Slot "list" name id) (hty : typeOf (.builtin id) = pure (.type "method_descriptor")) (he : ZE X G B o t)
    (hbase : attributeBase o name X.env (eval o X.env) = eval o X.env := by rfl) (hline : (apos.endLine == cpos.line) = true := by rfl) :
    ZE X G B (.Call (.Attribute o name apos) [] [] cpos) (zMetN0 z t) := by
  obtain ⟨r, h1, h2⟩ := hz
  obtain ⟨te, pt, rz⟩ := he
  refine ⟨_, pe_bm0 pa slot hty h1 pt hbase hline, fun σ H ss Q R S hw fin => ?_⟩
  refine rz σ H ss _ _ S hw fun v H1 rv s1 k1 rr q => ?_
  cases rv with
  | new o =>
    cases o with
    | lst ds =>
      obtain ⟨a, xs, rfl, ha, rs, up⟩ := rr.newl
      refine Or.inl ⟨rfl, xs, SqL.of ha⟩ |> fun w => ⟨w, h2 G H1 a xs [] ds [] _ _ ha rs .nil q fun v d xs' ds' rd rds q2 => ?_⟩
      obtain ⟨S2, k2⟩ := up xs'
      exact fin v _ (.d d) s1 (k1.trans k2) (.d' S2 (rd.kp k2)) q2
    | _ => exact q.elim
  | _ => exact q.elim
theorem z_metN1 {name : Str} {id : String} {z : ZMt} {i : Int} {ip : Nat} {p1 : Pos} (hz : MtZ X id z) (pa : PlainAttrs "list") (slot : Slot "list" name id) (hty : typeOf (.builtin id) = pure (.type "method_descriptor")) (he : ZE X G B o t)
    (hbase : attributeBase o name X.env (eval o X.env) = eval o X.env := by rfl)
    (hfew : ((backTo cpos (starEach [.Constant (.int i) ip p1] X.env)).all (fun x => !x.1) && (backToKw cpos (keywordEach [] X.env)).all (fun x => x.1.isSome)
      && decide (([.Constant (.int i) ip p1] : List Expr).length + ([] : List Keyword).length + (if ([] : List Keyword).isEmpty then 0 else 1) < 30)) = true := by rfl)
    (hline : (apos.endLine == cpos.line) = true := by rfl) (hs : starEach [.Constant (.int i) ip p1] X.env = (false, eval (.Constant (.int i) ip p1) X.env) :: starEach [] X.env := by rfl) (hplain : (backTo cpos (starEach [] X.env)).any (·.1) = false := by rfl) :
    ZE X G B (.Call (.Attribute o name apos) [.Constant (.int i) ip p1] [] cpos) (zMetN1 z t i) := by
  obtain ⟨r, h1, h2⟩ := hz
  obtain ⟨te, pt, rz⟩ := he
  refine ⟨_, pe_bm pa slot hty h1 pt (pa_cons pe_int pa_nil hs) hbase hfew hline hs hplain, fun σ H ss Q R S hw fin => ?_⟩
  refine rz σ H ss _ _ S hw fun v H1 rv s1 k1 rr q => ?_
  cases rv with
  | new o =>
    cases o with
    | lst ds =>
      obtain ⟨a, xs, rfl, ha, rs, up⟩ := rr.newl
      refine Or.inl ⟨rfl, xs, SqL.of ha⟩ |> fun w => ⟨w, h2 G H1 a xs [.int i] ds [.int i] _ _ ha rs (.cons (.int i) .nil) q fun v d xs' ds' rd rds q2 => ?_⟩
      obtain ⟨S2, k2⟩ := up xs'
      exact fin v _ (.d d) s1 (k1.trans k2) (.d' S2 (rd.kp k2)) q2
    | _ => exact q.elim
  | _ => exact q.elim
def zInsC : ZMt := fun ds es Q => match es with
  | [.int i, d] => Sd (ds.length < sizeLine) ∧ Sd (0 ≤ i ∧ i < 2 ^ 63) ∧ Q .non (ds.take i.toNat ++ [d] ++ ds.drop i.toNat)
  | _ => False
theorem mz_insert : MtZ X "list.insert" zInsC := by
  refine ⟨_, mt_insert, fun G H l xs vs ds es Q R hl rx rv q fin => ?_⟩
  match es, rv, q with
  | [.int i, d], .cons r (.cons r2 .nil), q =>
    cases r
    obtain ⟨h0, h1, q⟩ := q
    exact ⟨l, xs, i, _, rfl, rfl, hl, by rw [rx.length]; exact h0.h, h1.h.1, h1.h.2, fin _ _ _ _ .non (((rx.take _).append (.cons r2 .nil)).append (rx.drop _)) q⟩
/-! ## int(text) -/
def zIntTC : ZL := fun ds Q => match ds with
  | [.str a] => ∃ n : Int, Sd (PySem.intText? a = some n) ∧ Sd (a.length ≤ 640) ∧ Q (.d (.int n))
  | _ => False
theorem cz_intT : CalZ X (.type "int") zIntTC := by
  refine ⟨_, call_int_str, fun G H vs ds Q R h q fin => ?_⟩
  match ds, h, q with
  | [.str a], h, q =>
    obtain ⟨n, h1, h2, q⟩ := q
    obtain ⟨v, rfl, r⟩ := h.one
    obtain rfl := r.s
    exact ⟨a, n, rfl, h1.h, h2.h, fin _ H _ (rs_d (.int _)) q⟩
end

section
open PySem.Spec PyProof.Rows
/-! ## a def called in a handler: it raises nothing -/
/-- what a def does wherever it is called -/
structure FnC (P : Program) (w : World) (K : Frag) (mg : Str → Option Value) (base : Heap) (k : Nat) (f : Addr) (fd : FuncData) (ps : List Str) (sp : Sp) : Prop where
  len : ∀ vs H Q E, sp vs H Q E → vs.length = ps.length
  run : ∀ (A : Around) (outer : List Env) (s : Shared) (H : Hp) (args : Args) (us : List Value) (vs : List V) (Q : VK) (E : XK), L2H.RoomH k A → Env0 P w K mg base A outer s H → BindsTo s fd args (ps.zip us) → Vals vs us → sp vs H Q E →
    codeAny (model P w) A (.call (.ref f) args) (CR (L2.CX P w) outer P w H s Q E) s
theorem not_frame {h base : Heap} {a : Addr} {o : Obj} (e : base.get? a = some o) : ∀ {l : List Env}, h.FunFrames base l → a ∉ frs l := by
  intro l hl m
  induction l with
  | nil => exact absurd m (by simp [frs])
  | cons env rest ih =>
    obtain ⟨_, ⟨L, o', hf, hn, _, _⟩, hr⟩ := hl
    have m' : a ∈ (env :: rest).filterMap (·.frame) := m
    rw [List.filterMap_cons, hf] at m'
    rcases List.mem_cons.mp m' with q | q
    · rw [q, hn] at e; cases e
    · exact ih hr q
theorem fn_C {P : Program} {w : World} {K : Frag} {mg : Str → Option Value} {base : Heap} {x qual : Str} {st : Stmt} {f : Addr} {fd : FuncData} {N ps : List Str} {k : Nat} {sp : Sp} (F : Fun K x qual st f fd) (S : FnScope N ps (defScope st)) (len : ∀ vs H Q E, sp vs H Q E → vs.length = ps.length)
    (hbody : ∀ (cdv : Value) (A : Around) (outer : List Env) (s : Shared) (H : Hp) (vs : List V) (Q : VK) (E : XK) (p : Addr × Obj), L2H.RoomH k (A.deeper (envOfC qual (defScope st) s.heap.objs.size f cdv)) → sp vs H Q E →
      ∃ t, PSs (L2H.cxH (L2.CX P w) P w K mg base N qual (defScope st) f cdv A outer s H E p) (defBody st) t ∧ t { nx := fun _ H' => Q .non H', rt := Q } (start N vs) H) : FnC P w K mg base (k + 1) f fd ps sp := by
  obtain ⟨oc, od, kV, doc, pm, an, cdv, ct, osl, rfl, lk, hcd⟩ := F.ex
  refine ⟨len, fun A outer s H args us vs Q E hr e0 hb r hsp => ?_⟩
  have hl := len _ _ _ _ hsp
  have KX : K.In s.heap := e0.mod.kin.keeps fun b o e => (e0.bs b o e).1
  have lim : s.heap.NoLimit := e0.mod.nolimit.keeps fun b o e => (e0.bs b o e).1
  have hbase := e0.mod.kin _ _ lk
  obtain ⟨hget, hfree⟩ := e0.bs _ _ hbase
  have hpin : L2H.PinOk outer H s (f, _) := ⟨hget, hfree, not_frame hbase e0.funs, fun v => by intro q; cases q⟩
  have hkind : ∀ y ∈ ps.zip us, (defScope st).names.lookup y.1 = some .local ∨ ((defScope st).names.lookup y.1 = some .cell ∧ ((cellsFrom (s.heap.objs.size + 1) (defScope st).names []).lookup y.1).isSome = true) := fun ⟨n, v⟩ hy => by
    rcases S.par n (List.of_mem_zip hy).1 with q | q
    · exact .inl q
    · exact .inr ⟨q, PySem.W.cellsFrom_some _ _ _ (.inl q)⟩
  refine codeAny_call_function hr.depth (KX _ _ lk) rfl S.co S.gen rfl (PySem.W.codeRec_of KX hcd) (hb _ _ _ _ ?_)
  refine wpAny_newFunctionEnv_cells S.kind hkind fun env he s1 x => ?_
  subst he
  refine ⟨lim.keeps x.toInCall.keep, codeAny_func ?_⟩
  obtain ⟨t, ht, hq⟩ := hbody cdv A outer s H vs Q E (f, _) (hr.deeper _) hsp
  have I := L2H.inv_startH (CX := L2.CX P w) (E := E) S hpin e0 hl r x
  refine wpAny_mono (ht.run [] s1 (L2.start N vs) H _ I hq) (fun fl s' hs => ?_) fun e s' hs => hs
  cases fl with
  | ret u =>
    obtain ⟨v, σ', H', J, rv, q⟩ := hs
    exact ⟨v, H', J.os, J.bare, J.base, J.hok, rv, q⟩
  | next =>
    obtain ⟨σ', H', J, q⟩ := hs
    exact ⟨V.non, H', J.os, J.bare, J.base, J.hok, rfl, q⟩
  | brk =>
    obtain ⟨_, _, _, q⟩ := hs
    exact q.elim
  | cont =>
    obtain ⟨_, _, _, q⟩ := hs
    exact q.elim
end
section
variable {X : Cx} {G : Addr → Prop} {B : Hp} {k j : Nat} {f : Addr} {fd : FuncData} {ps : List Str} {sp : Sp} {fs : FS} {x : Str} {e : Expr} {es : List Expr} {t : TA} {ts : ZTA} {q pos : Pos}
theorem run_C {pins : List (Addr × Obj)} {σ : St} {H : Hp} {s : Shared} {Q : VK} {us : List Value} {vs : List V} (F : FnC X.prog X.w X.K X.mg X.base k f fd ps sp) (hr : L2H.RoomH k X.A) (hb : Binds X.K fd ps [])
    (I : Inv X pins σ H s) (r : Vals vs us) (h : sp vs H Q fun _ _ _ => False) : wpAny (model X.prog X.w) X.A (call (.ref f) us) (EP X pins σ Q) X.xe s := by
  have hl : us.length = ps.length := by rw [← r.length]; exact F.len _ _ _ _ h
  have b := hb s us I.kIn (by rw [List.append_nil]; exact hl)
  rw [List.append_nil] at b
  refine wpAny_call (codeAny_mono (F.run X.A X.stack s H ⟨us, []⟩ us vs Q _ hr I.env0 b r h) fun r s' hq => ?_)
  cases r with
  | error e =>
    obtain ⟨_, _, _, _, _, _, _, _, _, _, _, _, _, _, _, _, w⟩ := XE.of_call (W := fun _ _ _ _ => False) I (fun _ _ _ hh => hh) hq
    exact w.elim
  | ok fl =>
    cases fl with
    | ret u => exact I.after hq
    | next => exact False.elim hq
    | brk => exact False.elim hq
    | cont => exact False.elim hq
def tCallC (sp : Sp) (t : TA) : TE := fun σ H Q => t σ H fun vs H1 => sp vs H1 Q fun _ _ _ => False
theorem pe_callC (F : FnC X.prog X.w X.K X.mg X.base k f fd ps sp) (hr : L2H.RoomH k X.A) (hg : Gl X x) (hm : X.mg x = some (.ref f)) (hk : PySem.W.keepIn X.K (.ref f) = true) (hb : Binds X.K fd ps [])
    (ha : PA X (e :: es) t) (hdb : (x == ("__debug__" : Str)) = false := by decide) (he : starEach (e :: es) X.env = (false, eval e X.env) :: starEach es X.env := by rfl) (hpl : (backTo pos (starEach es X.env)).any (·.1) = false := by rfl) :
    PE X (.Call (.Name x q) (e :: es) [] pos) (tCallC sp t) := by
  refine ⟨fun pins s σ H Q I h => ?_⟩
  refine wpAny_Call_Name_kw (ld_glob I hg hm ?_ hdb)
  refine PySem.W.callWith_K (h₀ := X.base) I.ok.mod.kin hk (thn (ha.run pos pins s σ H _ I h) fun us s1 ⟨vs, H1, I1, r, q⟩ => ⟨I1.kIn, ?_⟩) he hpl
  exact run_C F hr hb I1 r q
/-- f(..) in a handler: nothing is lent, nothing raised -/
def zCallC (f : FS) (ts : ZTA) : ZT := fun ss Q => ts ss fun rs s => match cvsL s rs with
  | some ds => match hasLoc rs with
    | false => f ds (fun r => Q r s) fun _ _ _ => False
    | true => False
  | none => False
theorem z_callC (hr : L2H.RoomH k X.A) (F : FnC X.prog X.w X.K X.mg X.base j f fd ps (toSp X.K fs)) (hj : j ≤ k) (hm : X.mg x = some (.ref f)) (hk : PySem.W.keepIn X.K (.ref f) = true) (hb : Binds X.K fd ps [])
    (ha : ZA X G B (e :: es) ts) (hg : Gl X x := by rfl) (hdb : (x == ("__debug__" : Str)) = false := by decide) (he : starEach (e :: es) X.env = (false, eval e X.env) :: starEach es X.env := by rfl) (hpl : (backTo pos (starEach es X.env)).any (·.1) = false := by rfl) :
    ZE X G B (.Call (.Name x q) (e :: es) [] pos) (zCallC fs ts) := by
  obtain ⟨te, pa, za⟩ := ha
  refine ⟨_, pe_callC F (hr.mono hj) hg hm hk hb pa hdb he hpl, fun σ H ss Q R S hw fin => ?_⟩
  refine za σ H ss _ _ S hw fun vs H1 rs s1 k1 S1 ar q => ?_
  cases ec : cvsL s1 rs with
  | none => simp only [ec] at q
  | some ds =>
    simp only [ec] at q
    cases eh : hasLoc rs with
    | true => simp only [eh] at q
    | false =>
      simp only [eh] at q
      have rr := noLoc ar ec eh
      exact ⟨G, ds, _, _, fun a ga => (by obtain ⟨o, h⟩ := S1.gb a ga; exact ⟨o, S1.keep _ _ h⟩), rr, q, fun v H' r rs' qq => fin v H' r s1 (k1.trans (Kp.of rs'.same)) (rs'.rr S1) qq, fun cls d H' c ns es sm xr w => w⟩
theorem room_su {a : Addr} {pn : List (Addr × Obj)} (h : Room k X.A) : L2H.RoomH k (X.suite a pn).A := ⟨h.dp, h.un⟩
theorem fn_zC {P : Program} {w : World} {K : Frag} {mg : Str → Option Value} {base : Heap} {x qual : Str} {st : Stmt} {f : Addr} {fd : FuncData} {N ps : List Str} {k : Nat} {fs : FS} (F : Fun K x qual st f fd) (S : FnScope N ps (defScope st))
    (hl : ∀ ds Q E, fs ds Q E → ds.length = ps.length) (zs : WZ → ZTS)
    (body : ∀ (cdv : Value) (A : Around) (outer : List Env) (s : Shared) (H : Hp) (E : XK) (p : Addr × Obj) (G : Addr → Prop) (B : Hp) (Wz : WZ),
      ZSs (L2H.cxH (L2.CX P w) P w K mg base N qual (defScope st) f cdv A outer s H E p) G B (defBody st) (zs Wz))
    (read : ∀ ds Qz Ez, fs ds Qz Ez → zs (fun cls ns es _ => Ez cls ns es) ⟨fun _ => Qz (.d .non), retK Qz, fun _ => False, fun _ => False⟩ (args ds N.length)) :
    FnC P w K mg base (k + 1) f fd ps (toSp K fs) := by
  have hlen : ∀ vs H Q E, toSp K fs vs H Q E → vs.length = ps.length := fun vs H Q E ⟨G, ds, Qz, Ez, _, hd, hf, _⟩ => by rw [hd.length]; exact hl ds Qz Ez hf
  have hps : ps.length ≤ N.length := by have := congrArg List.length S.pre; rw [List.length_take] at this; omega
  refine fn_C F S hlen fun cdv A outer s H vs Q E p hr hsp => ?_
  obtain ⟨G, ds, Qz, Ez, hg, hd, hf, hq, he⟩ := hsp
  obtain ⟨ts, p, r⟩ := body cdv A outer s H E p G H (fun cls ns es _ => Ez cls ns es)
  refine ⟨ts, p, r _ H _ _ _ (args_sm hg hd (by rw [hl ds Qz Ez hf]; exact hps)) (read ds Qz Ez hf) ⟨fun σ' H' ss' k S' q => ?_, fun σ' v H' r ss' k rr q => ?_, fun _ _ _ _ _ q => q.elim, fun _ _ _ _ _ q => q.elim⟩⟩
  · exact hq .non H' (.d .non) (show Same H H' ∧ DR K G H' .non .non from ⟨S'.keep, .non⟩) q
  · cases r with
    | d x => exact hq v H' (.d x) (show Same H H' ∧ DR K G H' v x from ⟨rr.1.keep, rr.2⟩) q
    | new o =>
      obtain ⟨as, S', ro, nd⟩ := rr
      exact hq v H' (.new o) ⟨as, S'.keep, ro, nd, S'.nn⟩ q
    | loc i =>
      obtain ⟨S', ev⟩ := rr
      unfold retK at q
      cases es : ss'[i]? with
      | none => simp only [es] at q
      | some oo =>
        cases oo with
        | none => simp only [es] at q
        | some o =>
          simp only [es] at q
          obtain ⟨v', as, ev', ro, nd, S2⟩ := S'.take es
          rw [ev] at ev'; cases ev'
          exact hq v H' (.new o) ⟨as, S2.keep, ro, nd, S2.nn⟩ q
end

/-! ## a list's display times a number -/
section
variable {K : Frag} {G : Addr → Prop} {H : Hp}
theorem DRs.rep {vs : List V} {ds : List D} (h : DRs K G H vs ds) : ∀ k : Nat, DRs K G H (List.replicate k vs).flatten (List.replicate k ds).flatten
  | 0 => .nil
  | k + 1 => by
    rw [List.replicate_succ, List.replicate_succ, List.flatten_cons, List.flatten_cons]
    exact h.append (DRs.rep h k)
theorem DRs.perm {α : Type} (f : α → D) {ys xs : List V} (p : ys.Perm xs) : ∀ {ps : List α}, DRs K G H xs (ps.map f) → ∃ qs : List α, qs.Perm ps ∧ DRs K G H ys (qs.map f) := by
  induction p with
  | nil => exact fun {ps} h => ⟨ps, .refl _, h⟩
  | cons x p ih =>
    intro ps h
    match ps, h with
    | q :: ps, .cons a b =>
      obtain ⟨qs, h1, h2⟩ := ih b
      exact ⟨q :: qs, h1.cons _, .cons a h2⟩
  | swap x y l =>
    intro ps h
    match ps, h with
    | q :: q2 :: ps, .cons a (.cons b c) => exact ⟨q2 :: q :: ps, .swap _ _ _, .cons b (.cons a c)⟩
  | trans p1 p2 ih1 ih2 =>
    intro ps h
    obtain ⟨qs, h1, h2⟩ := ih2 h
    obtain ⟨rs, h3, h4⟩ := ih1 h2
    exact ⟨rs, h3.trans h1, h4⟩
theorem DRs.pw {α : Type} (f : α → D) {r : V → V → Prop} {u : α → α → Prop} (hr : ∀ x y a b, DR K G H x (f a) → DR K G H y (f b) → r x y → u a b) : ∀ {ys : List V} {ps : List α}, DRs K G H ys (ps.map f) → ys.Pairwise r → ps.Pairwise u
  | _, [], _, _ => .nil
  | _ :: _, a :: ps, .cons h t, p => by
    obtain ⟨p1, p2⟩ := List.pairwise_cons.mp p
    refine List.pairwise_cons.mpr ⟨fun b hb => ?_, DRs.pw f hr t p2⟩
    obtain ⟨i, hi⟩ := List.getElem?_of_mem hb
    obtain ⟨y, hy, ry⟩ := t.get (i := i) (d := f b) (by rw [List.getElem?_map, hi]; rfl)
    exact hr _ _ _ _ h ry (p1 y (List.mem_of_getElem? hy))
end
section
variable {X : Cx} {G : Addr → Prop} {B : Hp} {a b : Expr} {ta tb : ZT} {pos : Pos}
def zRep (ta tb : ZT) : ZT := fun ss Q => ta ss fun ra s1 => match ra with
  | .new (.lst ds) => tb s1 fun rb s2 => match rb with
    | .d (.int k) => Sd (k < 2 ^ 62 ∧ ds.length * k.toNat ≤ sizeLine) ∧ Sd (0 ≤ k) ∧ Q (.new (.lst (List.replicate k.toNat ds).flatten)) s2
    | _ => False
  | _ => False
theorem z_rep (ha : ZE X G B a ta) (hb : ∀ B', ZE X G B' b tb) : ZE X G B (.BinOp a .Mult b pos) (zRep ta tb) := by
  obtain ⟨tea, pa, za⟩ := ha
  obtain ⟨teb, hteb⟩ : ∃ f : Hp → TE, ∀ B', PE X b (f B') ∧ Zr X.K G B' (f B') tb := ⟨fun B' => Classical.choose (hb B'), fun B' => Classical.choose_spec (hb B')⟩
  have pb : PE X b (fun σ H Q => ∃ B', teb B' σ H Q) := ⟨fun pins s σ H Q I ⟨B', h⟩ => (hteb B').1.run pins s σ H Q I h⟩
  refine ⟨_, pe_op op_rep pa pb, fun σ H ss Q R S hw fin => ?_⟩
  refine za σ H ss _ _ S hw fun v H1 ra s1 k1 rr q => ?_
  match ra, rr, q with
  | .new (.lst ds), ⟨as, S1, r, nd⟩, q =>
    cases r with
    | @lst p xs _ h1 h2 =>
      have bn : B p = none := S1.nn p (by simp)
      have S1' := S1.hide h1
      refine ⟨upd B p (.lst xs), (hteb _).2 σ H1 s1 _ _ S1' q fun w H2 rb s2 k2 rr2 q2 => ?_⟩
      match rb, rr2, q2 with
      | .d (.int k), ⟨S2, rk⟩, ⟨sd, s0, q2⟩ =>
        cases rk
        have keep := S2.keep p _ upd_same
        have S3 := (S2.shown bn S1.gb).weak
        have hl : xs.length * k.toNat ≤ sizeLine := by rw [h2.length]; exact sd.h.2
        have h0 := s0.h
        have h62 := sd.h.1
        refine ⟨p, k, xs, rfl, rfl, keep, by omega, by omega, hl, fun p' np => ?_⟩
        have rs := rs_new (X := X) np ((h2.kp k2).rep k.toNat)
        exact fin _ _ _ s2 ((k1.trans k2).trans (Kp.of rs.same)) (rs.rr S3) q2
/-! ## sorted, of pairs of numbers -/
def dTI (ns : List Int) : D := .tup (ns.map .int)
def zSortedPC : ZL := fun ds Q => ∃ (m : Nat) (ps : List (List Int)) (B : Int), ds = [.lst m (ps.map dTI)] ∧ Sd (ps.length < 64) ∧ (∀ p ∈ ps, p.length = 2 ∧ TS.Bd B p) ∧
  ∀ qs : List (List Int), qs.Perm ps → qs.Pairwise (fun n m => TS.code B n ≤ TS.code B m) → Q (.new (.lst (qs.map dTI)))
theorem cz_sortedP : CalZ X (.builtin "sorted") zSortedPC := by
  have hh : CallR X (.builtin "sorted") (fun vs H Q => ∃ B, rSortU X.K 2 B vs H Q) := by
    intro pins s σ H vs us Q I r ⟨B, h⟩
    exact cr_sortT (B := B) (by decide) pins s σ H vs us Q I r h
  refine ⟨_, hh, fun G H vs ds Q R h q fin => ?_⟩
  obtain ⟨m, ps, B, rfl, hl, hp, q⟩ := q
  obtain ⟨v, rfl, r⟩ := h.one
  obtain ⟨a, ws, rfl, hq, rr⟩ := r.sq
  have tup : ∀ {x : V} {p : List Int}, DR X.K G H x (dTI p) → TupI X.K H x p := fun {x p} d => by
    cases d with
    | tup h1 h2 =>
      obtain rfl := h2.ints
      exact ⟨_, rfl, h1⟩
  refine ⟨B, a, ws, rfl, hq, by rw [rr.length, List.length_map]; exact hl.h, fun x hx => ?_, fun ys p' h1 h2 np => ?_⟩
  · obtain ⟨i, hi⟩ := List.getElem?_of_mem hx
    obtain ⟨d, hd, rd⟩ := rr.get' hi
    rw [List.getElem?_map, Option.map_eq_some_iff] at hd
    obtain ⟨p, hpi, rfl⟩ := hd
    obtain ⟨l2, bd⟩ := hp p (List.mem_of_getElem? hpi)
    exact ⟨p, tup rd, l2, bd⟩
  · obtain ⟨qs, e1, e2⟩ := DRs.perm dTI h1 rr
    refine fin _ _ _ (rs_new np e2) (q qs e1 (DRs.pw dTI (fun x y n m hx hy hr => hr n m (tup hx) (tup hy)) e2 h2))
end

/-! ## xs < ys of two lists of whole numbers -/
theorem firstLt_lex : ∀ (ns ms : List Int) (k : Nat), SeqAt.firstLt (fun j => decide (ns.getD (j - k) 0 = ms.getD (j - k) 0)) (fun j => decide (ns.getD (j - k) 0 < ms.getD (j - k) 0)) (decide (ns.length < ms.length)) (List.range' k (min ns.length ms.length)) = HT.lexLt ns ms
  | [], [], k => rfl
  | [], m :: ms, k => by
    show decide (0 < ms.length + 1) = true
    exact decide_eq_true (by omega)
  | n :: ns, [], k => by
    show decide (ns.length + 1 < 0) = false
    exact decide_eq_false (by omega)
  | n :: ns, m :: ms, k => by
    have ih := firstLt_lex ns ms (k + 1)
    rw [HT.lexLt_cons]
    have e : min (n :: ns).length (m :: ms).length = min ns.length ms.length + 1 := by simp only [List.length_cons]; omega
    rw [e, List.range'_succ]
    have e2 : decide ((n :: ns).length < (m :: ms).length) = decide (ns.length < ms.length) := decide_eq_decide.mpr (by simp only [List.length_cons]; omega)
    rw [e2]
    by_cases q : n = m
    · rw [if_pos q, ← ih, SeqAt.firstLt_yes (by simpa using q)]
      have go : ∀ l : List Nat, (∀ j ∈ l, k + 1 ≤ j) → SeqAt.firstLt (fun j => decide ((n :: ns).getD (j - k) 0 = (m :: ms).getD (j - k) 0)) (fun j => decide ((n :: ns).getD (j - k) 0 < (m :: ms).getD (j - k) 0)) (decide (ns.length < ms.length)) l = SeqAt.firstLt (fun j => decide (ns.getD (j - (k + 1)) 0 = ms.getD (j - (k + 1)) 0)) (fun j => decide (ns.getD (j - (k + 1)) 0 < ms.getD (j - (k + 1)) 0)) (decide (ns.length < ms.length)) l := by
        intro l
        induction l with
        | nil => exact fun _ => rfl
        | cons j l ih2 =>
          intro hl
          have hj := hl j List.mem_cons_self
          have ej : j - k = j - (k + 1) + 1 := by omega
          unfold SeqAt.firstLt
          rw [ih2 fun i hi => hl i (List.mem_cons_of_mem _ hi), ej]
          rfl
      exact go _ fun j hj => by
        have := List.mem_range'.mp hj
        omega
    · rw [if_neg q, SeqAt.firstLt_no (by simpa using q)]
      simp
def rLtL (K : Frag) : R2 := fun x y H Q => ∃ (a b : Addr) (ns ms : List Int), x = .ref a ∧ y = .ref b ∧ SqL K H a (ns.map V.int) ∧ SqL K H b (ms.map V.int) ∧ Q (.bl (HT.lexLt ns ms)) H
theorem op_ltL {X : Cx} (hu : X.A.units < cLine) : OpR X (compareOp .Lt) (rLtL X.K) := by
  intro pins s σ H x y v u Q I rx ry h
  obtain ⟨a, b, ns, ms, rfl, rfl, ha, hb, q⟩ := h
  cases rx
  cases ry
  obtain ⟨its, r1, p1, _⟩ := I.list ha
  obtain ⟨its2, r2, p2, _⟩ := I.list hb
  have i1 : PyProof.Rows.IntsAre its ns := Vals.ints r1
  have i2 : PyProof.Rows.IntsAre its2 ms := Vals.ints r2
  have e1 : its.toArray.size = ns.length := by rw [List.size_toArray]; exact i1.length
  have e2 : its2.toArray.size = ms.length := by rw [List.size_toArray]; exact i2.length
  have at1 : ∀ j (h1 : j < its.toArray.size), ∃ t, its.toArray[j] = .int (ns.getD j 0) t := fun j h1 => PyProof.Rows.IntsAre.int_at i1 _ _ (by simp at h1; simp [h1])
  have at2 : ∀ j (h1 : j < its2.toArray.size), ∃ t, its2.toArray[j] = .int (ms.getD j 0) t := fun j h1 => PyProof.Rows.IntsAre.int_at i2 _ _ (by simp at h1; simp [h1])
  have R := SeqAt.RcLt.lists (A := X.A) (s := s) (e := fun j => decide (ns.getD j 0 = ms.getD j 0)) (r := fun j => decide (ns.getD j 0 < ms.getD j 0)) p1.isList p2.isList hu (fun j h1 h2 => by
    obtain ⟨t, et⟩ := at1 j h1
    obtain ⟨t', et'⟩ := at2 j h2
    rw [et, et']
    have z : (ns.getD j 0 == ms.getD j 0) = decide (ns.getD j 0 = ms.getD j 0) := by
      by_cases q : ns.getD j 0 = ms.getD j 0
      · rw [decide_eq_true q]; exact beq_iff_eq.mpr q
      · rw [decide_eq_false q]; exact beq_eq_false_iff_ne.mpr q
    rw [← z]
    exact SeqAt.EqAt.int_int _ _ _ _) (fun j h1 h2 _ => by
    obtain ⟨t, et⟩ := at1 j h1
    obtain ⟨t', et'⟩ := at2 j h2
    rw [et, et']
    exact Ob.RcOp.lt_int _ _ _ _)
  rw [e1, e2] at R
  have fl := firstLt_lex ns ms 0
  simp only [Nat.sub_zero] at fl
  rw [← List.range_eq_range'] at fl
  rw [fl] at R
  have z : wpAny (model X.prog X.w) X.A (compareOp .Lt (.ref a) (.ref b)) (EP X pins σ Q) X.xe s := R X.prog X.w X.xe (EP X pins σ Q) ⟨.bl _, H, I, rfl, q⟩
  exact z
section
variable {X : Cx} {G : Addr → Prop} {B : Hp} {Wz : WZ} {k j : Nat} {e o a b c : Expr} {es : List Expr} {t to : ZT} {ts : ZTA} {pos apos cpos p : Pos}
/-- < of whole numbers, of tuples or of lists of them -/
def zLtX : Z2 := fun x y Q => match x, y with
  | .int i, .int j => Q (.d (.bl (decide (i < j))))
  | .tup xs, .tup ys => ∃ ns ms : List Int, (xs = ns.map .int ∧ ys = ms.map .int) ∧ Q (.d (.bl (HT.lexLt ns ms)))
  | .lst _ xs, .lst _ ys => ∃ ns ms : List Int, (xs = ns.map .int ∧ ys = ms.map .int) ∧ Q (.d (.bl (HT.lexLt ns ms)))
  | _, _ => False
theorem oz_ltX (hu : X.A.units + 64 < cLine) : OpZ X (compareOp .Lt) zLtX := by
  have hu' := Nat.lt_of_le_of_lt (Nat.le_add_right X.A.units 64) hu
  refine ⟨_, OpR.or op_lt (OpR.or (op_ltT hu') (op_ltL hu')), fun G H x y dx dy Q R hx hy q fin => ?_⟩
  unfold zLtX at q
  cases dx with
  | int i =>
    cases dy with
    | int j =>
      obtain rfl := hx.i; obtain rfl := hy.i
      exact .inl ⟨i, j, rfl, rfl, fin _ H _ (rs_d (.bl _)) q⟩
    | _ => exact q.elim
  | tup xs =>
    cases dy with
    | tup ys =>
      obtain ⟨ns, ms, ⟨rfl, rfl⟩, q⟩ := q
      obtain ⟨a1, ws1, rfl, h1, h2⟩ := hx.tq
      obtain ⟨a2, ws2, rfl, g1, g2⟩ := hy.tq
      obtain rfl := h2.ints
      obtain rfl := g2.ints
      exact .inr (.inl ⟨a1, a2, ns, ms, rfl, rfl, h1, g1, fin _ H _ (rs_d (.bl _)) q⟩)
    | _ => exact q.elim
  | lst m xs =>
    cases dy with
    | lst m2 ys =>
      obtain ⟨ns, ms, ⟨rfl, rfl⟩, q⟩ := q
      obtain ⟨a1, ws1, rfl, h1, h2⟩ := hx.sq
      obtain ⟨a2, ws2, rfl, g1, g2⟩ := hy.sq
      obtain rfl := h2.ints
      obtain rfl := g2.ints
      exact .inr (.inr ⟨a1, a2, ns, ms, rfl, rfl, h1, g1, fin _ H _ (rs_d (.bl _)) q⟩)
    | _ => exact q.elim
  | _ => cases dy <;> exact q.elim
end

/-! ## sum of a tuple of whole numbers -/
section
variable {X : Cx}
theorem call_sumT (hc : X.calm = true) : CallR X (.builtin "sum") (fun xs H Q => ∃ (t : Addr) (ns : List Int), xs = [V.ref t] ∧ SqT X.K H t (ns.map V.int) ∧ Q (.int ns.sum) H) := by
  intro pins s σ H vs us Q I r h
  obtain ⟨t, ns, rfl, ht, q⟩ := h
  obtain ⟨its, rv, p, _⟩ := I.tuple ht
  rw [Vals.ref1 r]
  have hi := Vals.ints rv
  obtain ⟨xs, e⟩ := hi.allInts.items
  have hn := hi.numsOf
  rw [show its = (intItems xs).toList by rw [← e], nums_intItems] at hn
  rw [e] at p
  refine PySem.W.ktm_sumG (I.ok.hd hc) p fun h' tk t' hk => ?_
  rw [preSum_eq, List.take_of_length_le (by simp), hn]
  exact ⟨.int _, H, I.kept hk, ⟨_, rfl⟩, q⟩
/-- sum of a list, of a tuple -/
def zSumX : ZL := fun ds Q => match ds with
  | [.tup xs] => ∃ ns : List Int, xs = ns.map D.int ∧ Q (.d (.int ns.sum))
  | ds => zSumC ds Q
theorem cz_sumX (hc : X.calm = true) : CalZ X (.builtin "sum") zSumX := by
  obtain ⟨r0, c0, z0⟩ := cz_sum hc
  refine ⟨_, CallR.or c0 (call_sumT hc), fun G H vs ds Q R h q fin => ?_⟩
  have old : zSumC ds Q → r0 vs H R := fun q => z0 G H vs ds Q R h q fin
  match ds, q with
  | [.tup xs], q =>
    obtain ⟨ns, rfl, q⟩ := q
    obtain ⟨v, rfl, r⟩ := h.one
    obtain ⟨a, ws, rfl, hq, rr⟩ := r.tq
    obtain rfl := rr.ints
    exact .inr ⟨a, ns, rfl, hq, fin _ H _ (rs_d (.int _)) q⟩
  | [], q => exact .inl (old q)
  | [.non], q => exact .inl (old q)
  | [.bl _], q => exact .inl (old q)
  | [.int _], q => exact .inl (old q)
  | [.str _], q => exact .inl (old q)
  | [.lst _ _], q => exact .inl (old q)
  | [.obj _ _ _], q => exact .inl (old q)
  | [.ty _], q => exact .inl (old q)
  | [.adr _], q => exact .inl (old q)
  | [.dct _ _ _], q => exact .inl (old q)
  | [.exc _ _ _], q => exact .inl (old q)
  | d :: _ :: _, q => cases d <;> exact .inl (old q)
end
/-! ## enumerate of a tuple -/
theorem meets_enum_new {v : Value} {o : Obj} {H : Heap → Prop} (B : Begins v o H) :
    Meets (Builtin.«enumerate.__new__» ⟨[.type "enumerate", v], []⟩) (fun _ R s => H s.heap ∧
      R (.ok (.ret (.ref (s.heap.push o).objs.size))) { s with heap := (s.heap.push o).push { cls := .type "enumerate", data := .fields #[.none, .bool false, .ref s.heap.objs.size, rawInt 0, .none, .none] } }) :=
  .of_wp fun prog w A R s h => by
    obtain ⟨hp, g, d, tk, os⟩ := s; obtain ⟨h1, h⟩ := h
    have sb := sub_enumerate
    have begin_ : ∀ {A' : Around} {E Q : Value → Shared → Prop}, Q (.ref hp.objs.size) ⟨hp.push o, g, d, tk, os⟩ → wpAny (model prog w) A' (pyIter v) Q E ⟨hp, g, d, tk, os⟩ := fun q => B.iter _ _ _ _ _ _ h1 q
    wp_walk using begin_
    refine wpAny_stack_any fun st => wpAny_pure ?_
    split
    · rename_i c _ _ _ _ _
      cases (c == Value.type "enumerate") <;> (wp_walk using begin_; exact ⟨_, rfl, h⟩)
    · wp_walk using begin_
      exact ⟨_, rfl, h⟩
theorem enum_begin {prog : Program} {w : World} {A : Around} {E : Value → Shared → Prop} {s : Shared} {v : Value} {o : Obj} {H : Heap → Prop} {Q : Value → Shared → Prop} (B : Begins v o H) (h1 : H s.heap)
    (h : ∀ h', IsEnum h' (s.heap.objs.size + 1) s.heap.objs.size 0 .none → h'.get? s.heap.objs.size = some o → h'.objs.size = s.heap.objs.size + 2 →
      (∀ b o, s.heap.get? b = some o → h'.get? b = some o) → Q (.ref (s.heap.objs.size + 1)) { s with heap := h' }) :
    wpAny (model prog w) A (call (.type "enumerate") [v]) Q E s := by
  have z1 : (s.heap.push o).objs.size = s.heap.objs.size + 1 := Heap.size_push ..
  have en := Heap.get?_push_size (s.heap.push o) (o := { cls := .type "enumerate", data := .fields #[.none, .bool false, .ref s.heap.objs.size, rawInt 0, .none, .none] }) rfl
  rw [z1] at en
  refine callType_new F.called_enumerate (by decide) (F.typeCall_enumerate_1 _) (F.newCall_enumerate_1 _) (fun obj => F.args_object_init_2 obj _) F.entry_enumerate_new (meets_enum_new B) ⟨h1, ?_⟩
  show _ ∧ _
  rw [z1]
  exact ⟨⟨_, en, rfl⟩, h _ en (Heap.get?_push_of_some _ (Heap.get?_push_size _ B.free)) (by rw [Heap.size_push, z1]) fun b o x => Heap.get?_push_of_some _ (Heap.get?_push_of_some _ x)⟩
def ItET (K : Frag) (a : Addr) : It where
  go := fun i H => ∃ (xs : List V) (x : V), SqT K H a xs ∧ xs[i]? = some x
  yld := fun i H v H' => ∃ T x, v = .ref T ∧ H T = none ∧ H' = upd H T (.tup [.int (i : Nat), x]) ∧ ∀ xs, SqT K H a xs → xs[i]? = some x
  stop := fun i H => ∃ xs : List V, SqT K H a xs ∧ i = xs.length
theorem turnET {P : Program} {w : World} {K : Frag} {es : List Expr} {kx : Nat} {tp : Pos} {a e it : Addr} (n1 : e ≠ it) (n2 : a ≠ it) (n3 : e ≠ a) :
    Turn P w K (.Tuple es kx tp) (ItET K a) [e, it] e (fun i h => (∃ old, IsEnum h e it ((i : Nat) : Int) old) ∧ h.IsTupleIter it a i) := by
  have fpc : ∀ {c : Addr}, c ∈ [e, it] → c = e ∨ c = it := fun h => by simpa using h
  have ef : e ∉ [it, a] := fun h => by
    rcases List.mem_cons.mp h with q | q
    · exact n1 q
    · exact n3 (List.mem_singleton.mp q)
  refine ⟨by simp, fun i h st c hc => ?_, fun i h h' st k => ?_, ?_, ?_, fun _ i s Q E st h => let ⟨⟨_, he⟩, _⟩ := st; wpAny_pyIter_enum he h⟩
  · obtain ⟨⟨old, q1⟩, ⟨o2, q2, _, d2⟩⟩ := st
    rcases fpc hc with rfl | rfl
    · exact ⟨_, q1, fun _ e => nomatch e⟩
    · exact ⟨o2, q2, fun _ e => by rw [d2] at e; cases e⟩
  · obtain ⟨⟨old, q1⟩, q2⟩ := st
    exact ⟨⟨old, k _ (by simp) _ q1⟩, q2.at fun o e => k _ (by simp) o e⟩
  · intro X e1 e2 e3 calm i pins s σ H E I free st can
    subst e1 e2 e3
    obtain ⟨⟨old, q1⟩, q2⟩ := st
    obtain ⟨xs, x, hx, ex⟩ := can
    obtain ⟨l1, r1, p1, _⟩ := I.tuple hx
    obtain ⟨u1, f1, g1⟩ := r1.get ex
    have hh : X.A.in1.handled = none := I.ok.hd calm
    have lt1 : i < l1.toArray.size := by have := (List.getElem?_eq_some_iff.mp f1).1; simpa using this
    refine wpAny_pyNext_enum_itemD (Draws.tuple hh it a n2 l1.toArray) q1 ⟨q2, p1⟩ lt1 n1 ef fun v h' tk w1 ho t1 nt hs hk => ?_
    have w1' : v = u1 := by
      have w1 : l1.toArray[i]? = some v := w1
      rw [List.getElem?_toArray, f1] at w1; cases w1; rfl
    subst w1'
    refine ⟨_, rfl, wpAny_letOwnedTupleGo_enum (s := ⟨h', s.gens, s.drawn, tk + 1, s.os⟩) ho fun h2 z2 sb => ?_⟩
    have elt : e < s.heap.objs.size := Heap.lt_size q1
    have laid : h2.get? s.heap.objs.size = some { cls := .type "tuple", data := .seq #[.int i tk, v] } := (sb.2 _ (Nat.ne_of_gt elt)).trans nt
    have fresh := I.hok.fresh (Nat.le_refl s.heap.objs.size)
    have I1 : Inv X pins σ (upd H s.heap.objs.size (.tup [.int (i : Nat), x])) { s with heap := h2, toks := tk + 1 } :=
      I.turnedNew (ch := [e, it]) (fun c o off q => by
        have m : ∀ {d}, d ∈ [e, it] → c ≠ d := fun hd e => off (by rw [e]; exact hd)
        rw [sb.2 c (m (by simp))]
        exact hk c o (m (by simp)) (m (by simp)) q) free (Nat.le_refl _)
        ⟨by show 2 ≤ sizeLine; rw [sizeLine_eq]; decide, [.int i tk, v], .cons ⟨_, rfl⟩ (.cons g1 .nil), ⟨_, laid, rfl, _, rfl⟩⟩
    refine ⟨.ref s.heap.objs.size, _, I1, rfl, ⟨_, x, rfl, fresh, rfl, fun l hl => by rw [I.tuple_inj hl hx]; exact ex⟩, ⟨⟨v, ?_⟩, ?_⟩, fun c hc => ?_⟩
    · have e1 : ((i + 1 : Nat) : Int) = (i : Int) + 1 := by omega
      rw [e1]; exact z2
    · exact t1.1.at fun o q => (sb.2 it (Ne.symm n1)).trans q
    · have lt : c < s.heap.objs.size := by
        rcases fpc hc with rfl | rfl
        · exact elt
        · obtain ⟨_, e, _⟩ := q2; exact Heap.lt_size e
      rw [upd_ne (Nat.ne_of_lt lt)]
      exact (free c hc).1
  · intro X e1 e2 e3 calm i pins s σ H E I free st over
    subst e1 e2 e3
    obtain ⟨⟨old, q1⟩, q2⟩ := st
    obtain ⟨xs, hx, rfl⟩ := over
    obtain ⟨l1, r1, p1, _⟩ := I.tuple hx
    have hh : X.A.in1.handled = none := I.ok.hd calm
    have c1 : xs.length = l1.toArray.size := by rw [List.size_toArray]; exact r1.length
    rw [c1] at q2
    refine wpAny_pyNext_enum_endD (Draws.tuple hh it a n2 l1.toArray) q1 ⟨q2, p1⟩ fun h' hk => ⟨rfl, I.turnedL (ch := [e, it]) (fun c o off q => ?_) free⟩
    exact hk c o (fun e => off (by rw [e]; simp)) q
def iEnumX (K : Frag) (ta : TA) : TI := fun σ H R => ta σ H fun vs H1 => ∃ a, vs = [.ref a] ∧ ((∃ xs, SqL K H1 a xs ∧ R (Ite K a) H1) ∨ ∃ xs, SqT K H1 a xs ∧ R (ItET K a) H1)
theorem pi_enumX {X : Cx} {e : Expr} {ta : TA} {p pos tp : Pos} {es : List Expr} {kx : Nat} (hg : Gl X "enumerate") (hm : X.mg "enumerate" = none) (ha : PA X [e] ta) (hs : starEach [e] X.env = [(false, eval e X.env)] := by rfl) :
    PI X (.Tuple es kx tp) (.Call (.Name "enumerate" p) [e] [] pos) (iEnumX X.K ta) := by
  refine ⟨fun pins s σ H R I h => ?_⟩
  refine PyProof.Rows.Call_ (ld_blt I hg hm PyProof.Rows.boot_enumerate (PyProof.Rows.callWith_type1 (thn (ha.run pos pins s σ H _ I h) fun us s1 ⟨vs, H1, I1, rel, a, ev, q⟩ => ?_) hs rfl))
  subst ev
  cases rel with
  | cons r1 rr =>
    cases rr
    cases r1
    have fp : ∀ b ∈ [s1.heap.objs.size + 1, s1.heap.objs.size], FpOk X pins H1 b := fun b hb => by
      have le : s1.heap.objs.size ≤ b := by
        simp only [List.mem_cons, List.not_mem_nil, or_false] at hb
        omega
      exact I1.fpOk le (I1.hok.fresh le)
    rcases q with ⟨xs, hq, q⟩ | ⟨xs, hq, q⟩
    · obtain ⟨its, rv, p', hz⟩ := I1.list hq
      refine call_enumerate_list p'.isList fun h' he hit hsz hk => wpAny_pyIter_enum he ?_
      have I2 : Inv X pins σ H1 { s1 with heap := h' } := I1.kept (t' := s1.toks) hk
      exact ⟨s1.heap.objs.size + 1, [s1.heap.objs.size + 1, s1.heap.objs.size], _, _, H1, rfl, I2, turn_enum a (s1.heap.objs.size + 1) s1.heap.objs.size, ⟨⟨.none, he⟩, hit, Nat.succ_ne_self _⟩, fp, q⟩
    · obtain ⟨its, rv, p', hz⟩ := I1.tuple hq
      have la : a < s1.heap.objs.size := by obtain ⟨_, e, _⟩ := p'; exact Heap.lt_size e
      refine enum_begin (begins_tuple a its.toArray) p' fun h' he hit hsz hk => wpAny_pyIter_enum he ?_
      have I2 : Inv X pins σ H1 { s1 with heap := h' } := I1.kept (t' := s1.toks) hk
      exact ⟨s1.heap.objs.size + 1, [s1.heap.objs.size + 1, s1.heap.objs.size], _, _, H1, rfl, I2, turnET (Nat.succ_ne_self _) (Nat.ne_of_lt la) (Nat.ne_of_gt (Nat.lt_succ_of_lt la)), ⟨⟨.none, he⟩, ⟨_, hit, rfl, rfl⟩⟩, fp, q⟩
section
variable {X : Cx} {G : Addr → Prop} {B : Hp} {a b : Expr} {ts : ZTDs} {pos p : Pos}
theorem itok_enumT {K : Frag} {H : Hp} {a : Addr} {xs : List V} {ds : List D} (h : ∀ H1, Kp H H1 → SqT K H1 a xs) (r : DRs K G H xs ds) : ItOk K G (ItET K a) (enD ds) H := by
  have hl : (enD ds).length = ds.length := by unfold enD; rw [List.length_zipWith, List.length_range, Nat.min_self]
  have l1 := r.length
  refine ⟨fun H1 k i hi => ?_, fun H1 k i hi hi2 => ⟨xs, h H1 k, by omega⟩⟩
  rw [hl] at hi
  have i1 : i < xs.length := by omega
  refine ⟨⟨xs, xs[i], h H1 k, List.getElem?_eq_getElem i1⟩, fun v H2 y => ?_⟩
  obtain ⟨T, x, rfl, n, rfl, hx⟩ := y
  obtain ⟨d, e1, rd⟩ := r.get' (hx xs (h H1 k))
  obtain ⟨sm, rt⟩ := tupH n (DR.int (K := K) (G := G) (H := H1) (i : Nat)) (rd.kp k)
  exact ⟨sm, _, by unfold enD; rw [List.getElem?_zipWith, List.getElem?_range hi, e1], rt⟩
def ziEnumX (ts : ZTDs) : ZTI := fun ss Q => ts ss fun ds s => match ds with
  | [.lst _ xs] => Q (enD xs) s
  | [.tup xs] => Q (enD xs) s
  | _ => False
theorem zi_enumX {elts : List Expr} {kk : Nat} {tpos : Pos} (hm : X.mg "enumerate" = none) (ha : ZDs X G B [a] ts) (hg : Gl X "enumerate" := by rfl) (hs : starEach [a] X.env = [(false, eval a X.env)] := by rfl) :
    ZIt X G B (.Tuple elts kk tpos) (.Call (.Name "enumerate" p) [a] [] pos) (ziEnumX ts) := by
  obtain ⟨te, pa, r⟩ := ha
  refine ⟨_, pi_enumX hg hm pa hs, fun σ H ss Q R S hw fin => ?_⟩
  refine r σ H ss _ _ S hw fun vs H1 ds s1 k1 S1 rs q => ?_
  match ds, vs, rs, q with
  | [.lst m xs], [v], .cons r1 .nil, q =>
    obtain ⟨a, ws, rfl, h1, h2⟩ := r1.lq
    exact ⟨a, rfl, .inl ⟨ws, h1 H1 (Kp.refl _), fin _ H1 _ s1 k1 S1 (itok_enum h1 h2) q⟩⟩
  | [.tup xs], [v], .cons r1 .nil, q =>
    obtain ⟨a, ws, rfl, h1, h2⟩ := (VR.d r1).tq
    exact ⟨a, rfl, .inr ⟨ws, h1, fin _ H1 _ s1 k1 S1 (itok_enumT (fun H2 k => sqT_kp k h1) h2) q⟩⟩
end

/-! ## list(range(n)), sorted of whole numbers -/
section
variable {X : Cx} {G : Addr → Prop} {B : Hp} {a b : Expr} {ta : ZT} {pos p p2 pos2 : Pos}
theorem DRs_rg {K : Frag} {H : Hp} (n : Int) : DRs K G H (rgV 0 n) (rngD 0 n.toNat) := by
  have e : rgV 0 n = ((List.range n.toNat).map fun i : Nat => (0 : Int) + i).map V.int := by
    unfold rgV
    rw [Int.sub_zero, List.map_map]; rfl
  have e2 : rngD 0 n.toNat = ((List.range n.toNat).map fun i : Nat => (0 : Int) + i).map D.int := by
    unfold rngD
    rw [List.map_map]; rfl
  rw [e, e2]
  exact DRs.of_ints _
def zListR (t : ZT) : ZT := fun ss Q => t ss fun r s => match r with
  | .d (.int n) => Sd (0 ≤ n ∧ n ≤ 1000000) ∧ Q (.new (.lst (rngD 0 n.toNat))) s
  | _ => False
theorem z_listR (hc : X.calm = true) (hm : X.mg "list" = none) (hm2 : X.mg "range" = none) (ha : ZE X G B a ta) (hg : Gl X "list" := by rfl) (hg2 : Gl X "range" := by rfl)
    (na : starEach [a] X.env = (false, eval a X.env) :: starEach [] X.env := by rfl) (nb : starEach [.Call (.Name "range" p2) [a] [] pos2] X.env = (false, eval (.Call (.Name "range" p2) [a] [] pos2) X.env) :: starEach [] X.env := by rfl) :
    ZE X G B (.Call (.Name "list" p) [.Call (.Name "range" p2) [a] [] pos2] [] pos) (zListR ta) := by
  obtain ⟨te, pe, r⟩ := ha
  refine ⟨_, pe_listRg hc hg hm (prg_1 hg2 hm2 pe na) nb, fun σ H ss Q R S hw fin => ?_⟩
  refine r σ H ss _ _ S hw fun v H1 rv s1 k1 rr q => ?_
  match rv, q with
  | .d (.int n), ⟨c, q⟩ =>
    obtain ⟨S1, d⟩ := rr
    cases d
    have c := c.h
    refine ⟨n, rfl, RgOk.of_le (by omega) (by omega) (by omega) (by omega), fun pp np => ?_⟩
    obtain ⟨as, sm, o, nd, nn⟩ := rs_new (X := X) (G := G) np (DRs_rg n)
    exact fin _ _ (.new (.lst (rngD 0 n.toNat))) s1 (k1.trans (Kp.of sm)) (RS.rr S1 ⟨as, sm, o, nd, nn⟩) q
def zSortedC : ZL := fun ds Q => ∃ (m : Nat) (ns : List Int), ds = [.lst m (ns.map .int)] ∧ Sd (ns.length < 64) ∧ ∀ ns' : List Int, ns'.Perm ns → ns'.Pairwise (· ≤ ·) → Q (.new (.lst (ns'.map .int)))
theorem cz_sorted : CalZ X (.builtin "sorted") zSortedC := by
  refine ⟨_, cr_sorted, fun G H vs ds Q R h q fin => ?_⟩
  obtain ⟨m, ns, rfl, c, q⟩ := q
  obtain ⟨v, rfl, r⟩ := h.one
  obtain ⟨a, ws, rfl, hq, rr⟩ := r.sq
  obtain rfl := rr.ints
  refine ⟨a, ns, rfl, hq, c.h, fun ns' pp e1 e2 np => ?_⟩
  exact fin _ _ _ (rs_new np (DRs.of_ints ns')) (q ns' e1 e2)
end

/-! ## objects that change -/
theorem cls100 {K : Frag} {c : Nat} {C : Addr} (h : ClsAt K c C) : ClsAt K (c + 100) C := by unfold ClsAt; rw [clsN_100]; exact h
section
variable {K : Frag} {G : Addr → Prop} {B : Hp} {N M : List Addr} {σ : St} {H H' : Hp} {ss : SS}
theorem Sm.less (S : Sm K G B N σ H ss) (h : ∀ a ∈ M, a ∈ N) : Sm K G B M σ H ss := by
  obtain ⟨A, W⟩ := S.own
  exact ⟨S.keep, ⟨A, W.at_, W.nd, W.ap, fun i a hh => ⟨(W.fr i a hh).1, fun q => (W.fr i a hh).2 (h a q)⟩, W.off⟩, fun a ha => S.nn a (h a ha), S.gb, S.len⟩
theorem Sm.takeN (S : Sm K G B N σ H ss) {i : Nat} {o : O} (h : ss[i]? = some (some o)) : ∃ v as, σ[i]? = some (some v) ∧ OR K G H v o as ∧ as.Nodup ∧ (∀ a ∈ as, a ∉ N) ∧ Sm K G B (as ++ N) σ H (ss.set i none) := by
  obtain ⟨A, W⟩ := S.own
  obtain ⟨v, e, r⟩ := W.at_ i o h
  refine ⟨v, A i, e, r, W.nd i, fun a ha => (W.fr i a ha).2, S.keep, ⟨fun j => if j = i then [] else A j, fun j u e => ?_, fun j => ?_, fun j k a h1 h2 => ?_, fun j a h => ?_, fun j q => ?_⟩, fun a h => ?_, S.gb, by simp [S.len]⟩
  · rcases get_set e with ⟨rfl, q⟩ | ⟨ne, q⟩
    · cases q
    · obtain ⟨w, e1, r1⟩ := W.at_ j u q
      exact ⟨w, e1, by rw [if_neg ne]; exact r1⟩
  · by_cases e : j = i
    · simp only [if_pos e]; exact List.nodup_nil
    · simp only [if_neg e]; exact W.nd j
  · by_cases e : j = i
    · simp only [if_pos e] at h1; simp at h1
    · by_cases e2 : k = i
      · simp only [if_pos e2] at h2; simp at h2
      · simp only [if_neg e, if_neg e2] at h1 h2
        exact W.ap j k a h1 h2
  · by_cases e : j = i
    · simp only [if_pos e] at h; simp at h
    · simp only [if_neg e] at h
      refine ⟨(W.fr j a h).1, fun q => ?_⟩
      rcases List.mem_append.mp q with q | q
      · exact e (W.ap j i a h q)
      · exact (W.fr j a h).2 q
  · by_cases e : j = i
    · simp only [if_pos e]
    · simp only [if_neg e]
      exact W.off j fun u h => q u (by rw [List.getElem?_set_ne (Ne.symm e)]; exact h)
  · rcases List.mem_append.mp h with q | q
    · exact (W.fr i a q).1
    · exact S.nn a q
/-- what is held back is changed, and perhaps more is made -/
theorem Sm.swap (S : Sm K G B N σ H ss) (k : ∀ b o, b ∉ N → H b = some o → H' b = some o) (kp : Kp H H') (n : ∀ a ∈ M, a ∈ N ∨ H a = none) : Sm K G B M σ H' ss := by
  obtain ⟨A, W⟩ := S.own
  refine ⟨fun b o e => k b o (fun q => by rw [S.nn b q] at e; cases e) (S.keep b o e), ⟨A, fun i o e => ?_, W.nd, W.ap, fun i b hb => ⟨(W.fr i b hb).1, fun q => ?_⟩, W.off⟩, fun a ha => ?_, S.gb, S.len⟩
  · obtain ⟨w, e1, r1⟩ := W.at_ i o e
    refine ⟨w, e1, r1.kp kp fun b hb => ?_⟩
    obtain ⟨_, u, hu⟩ := r1.there b hb
    rw [hu, k b u (W.fr i b hb).2 hu]
  · rcases n b q with q | q
    · exact (W.fr i b hb).2 q
    · obtain ⟨_, u, hu⟩ := W.there hb
      rw [q] at hu; cases hu
  · rcases n a ha with q | q
    · exact S.nn a q
    · exact S.fresh q
theorem Sm.updN {a : Addr} {u w : HO} (S : Sm K G B N σ H ss) (ha : a ∈ N) (h : H a = some u) (m : Mut (some u)) : Sm K G B N σ (upd H a w) ss ∧ Kp H (upd H a w) :=
  have kp : Kp H (upd H a w) := Kp.upd h m
  ⟨S.swap (fun b o n e => by rw [upd_ne (fun q => n (by rw [q]; exact ha))]; exact e) kp fun a h => .inl h, kp⟩
end
/-! ### self.f = e, what is owned stays owned -/
def putO (f : Nat) (o : O) : List Nat → List O → List O
  | [], _ => [o]
  | n :: ns, x :: os => match n == f with
    | true => o :: os
    | false => x :: putO f o ns os
  | _ :: _, [] => []
theorem put_fldO {K : Frag} {G : Addr → Prop} {H : Hp} {f : Nat} {v : V} {o : O} {bs : List Addr} (rd : OR K G H v o bs) (ndb : bs.Nodup) : ∀ {ns : List Nat} {os : List O} {fvs : List (Str × V)} {as : List Addr}, fldOk f ns = true → fvs.map (·.1) = ns.map attN → ORs K G H (fvs.map (·.2)) os as → as.Nodup → (∀ b ∈ bs, b ∉ as) →
    (putF (attN f) v fvs).map (·.1) = (putN f ns).map attN ∧ ∃ as', ORs K G H ((putF (attN f) v fvs).map (·.2)) (putO f o ns os) as' ∧ as'.Nodup ∧ ∀ b ∈ as', b ∈ as ∨ b ∈ bs
  | [], os, fvs, as, _, e, r, _, _ => by
    have : fvs = [] := by cases fvs with
      | nil => rfl
      | cons _ _ => simp at e
    subst this
    exact ⟨rfl, bs ++ [], .cons rd .nil, by simpa using ndb, fun b hb => .inr (by simpa using hb)⟩
  | n :: ns, os, fvs, as, ok, e, r, nd, dj => by
    obtain ⟨p, l', rfl, e1, e2⟩ := map_cons_inv e
    obtain ⟨pn, pv⟩ := p
    have e4 : pn = attN n := e1
    subst e4
    rw [List.map_cons] at r
    match os, as, r, nd, dj with
    | x :: os, _, .cons (as := as1) (bs := as2) r1 r2, nd, dj =>
      unfold fldOk at ok
      rw [List.all_cons, Bool.and_eq_true, Bool.and_eq_true] at ok
      obtain ⟨nd1, nd2, nd3⟩ := List.nodup_append.mp nd
      unfold putF putN putO
      cases q : n == f with
      | true =>
        have e3 : n = f := by simpa using q
        subst e3
        rw [if_pos rfl]
        refine ⟨by simp [e2], bs ++ as2, .cons rd r2, List.nodup_append.mpr ⟨ndb, nd2, fun a ha b hb e => dj a ha (List.mem_append_right _ (e ▸ hb))⟩, fun b hb => ?_⟩
        rcases List.mem_append.mp hb with hb | hb
        · exact .inr hb
        · exact .inl (List.mem_append_right _ hb)
      | false =>
        have ne : n ≠ f := by simpa using q
        rw [if_neg (attN_ne ok.2.1 ok.1 ne)]
        obtain ⟨a, as', b, c, d⟩ := put_fldO rd ndb (fvs := l') (by unfold fldOk; rw [ok.1, ok.2.2]; rfl) e2 r2 nd2 fun b hb q => dj b hb (List.mem_append_right _ q)
        refine ⟨by simp only [List.map_cons, a], as1 ++ as', .cons r1 b, List.nodup_append.mpr ⟨nd1, c, fun x hx y hy e => ?_⟩, fun b hb => ?_⟩
        · subst e
          rcases d x hy with hy | hy
          · exact nd3 x hx x hy rfl
          · exact dj x hy (List.mem_append_left _ hx)
        · rcases List.mem_append.mp hb with hb | hb
          · exact .inl (List.mem_append_left _ hb)
          · exact (d b hb).imp (fun q => List.mem_append_right _ q) fun q => q
section
variable {X : Cx} {G : Addr → Prop} {B : Hp} {Wz : WZ} {k j : Nat} {e o a b c : Expr} {es : List Expr} {t to : ZT} {pos apos cpos p : Pos} {σ : St} {H : Hp} {ss : SS}
/-- the instance of a slot takes a field -/
theorem Sm.insX {K : Frag} {bs : List Addr} (S : Sm K G B bs σ H ss) {i a0 c f : Nat} {ns : List Nat} {os : List O} {v : V} {o : O} (h : ss[i]? = some (some (.ins a0 c ns os))) (rd : OR K G H v o bs) (ndb : bs.Nodup) (ok : fldOk f ns = true) : ∃ C dx fvs, σ[i]? = some (some (.ref a0)) ∧ ClsAt K c C ∧ H a0 = some (.ins C dx fvs) ∧ fvs.map (·.1) = ns.map attN ∧
    Sm K G B [] σ (upd H a0 (.ins C dx (putF (attN f) v fvs))) (ss.set i (some (.ins a0 c (putN f ns) (putO f o ns os)))) ∧ Kp H (upd H a0 (.ins C dx (putF (attN f) v fvs))) := by
  obtain ⟨v', as, e, r, nd, dj, S1⟩ := S.takeN h
  cases r with
  | @ins _ C dx _ fvs _ _ as hc h1 h2 h3 =>
    rw [List.nodup_cons] at nd
    obtain ⟨g1, as', g2, g3, g4⟩ := put_fldO (f := f) rd ndb ok h2 h3 nd.2 fun b hb q => dj b (List.mem_cons_of_mem _ q) hb
    have na : a0 ∉ as' := fun q => by
      rcases g4 a0 q with q | q
      · exact nd.1 q
      · exact dj a0 (by simp) q
    obtain ⟨S2, kp⟩ := S1.updN (a := a0) (w := .ins C dx (putF (attN f) v fvs)) (by simp) h1 trivial
    have S3 : Sm K G B (a0 :: as') σ (upd H a0 (.ins C dx (putF (attN f) v fvs))) (ss.set i none) := S2.less fun b hb => by
      rcases List.mem_cons.mp hb with rfl | hb
      · simp
      · rcases g4 b hb with q | q
        · simp [q]
        · simp [q]
    have S4 := S3.put (i := i) (o := .ins a0 c (putN f ns) (putO f o ns os)) e (.ins hc upd_same g1 (g2.kp kp fun b hb => upd_ne fun q => na (q ▸ hb))) (List.nodup_cons.mpr ⟨na, g3⟩)
    rw [List.set_set] at S4
    exact ⟨C, dx, fvs, e, hc, h1, h2, S4, kp⟩
def RV.own : RV → Option O
  | .d x => some (.pure x)
  | .new o => some o
  | .loc _ => none
def zPutX (cs : List Nat) (f i : Nat) (t : ZT) : ZTS := fun D ss => t ss fun r s => match s[i]? with
  | some (some (.ins a c ns os)) => match r.own with
    | some o => Sd ((cs.contains c && fldOk f ns && decide (ns.length < 900)) = true) ∧ fc (s.set i (some (.ins a c (putN f ns) (putO f o ns os)))) fun s' => D.nx s'
    | none => False
  | _ => False
theorem s_putX {cs : List Nat} {f i : Nat} {x m : Str} {np tp spos : Pos} (he : ZE X G B e t) (fo : FldOk X.K f cs) (hN : X.N[i]? = some x := by rfl) (hv : Vis X.env.scope x := by first | exact Or.inl rfl | exact Or.inr (Or.inl rfl) | exact Or.inr (Or.inr rfl))
    (hm : m = attN f := by rfl) (hd : (x == ("__debug__" : Str)) = false := by decide) (hcd : (x == ("__classdict__" : Str)) = false := by decide) (hs : swapsWith e (some (.Attribute (.Name x np) m tp)) spos.line X.env = pure false := by rfl) :
    ZS X G B (.Assign [.Attribute (.Name x np) m tp] e spos) (zPutX cs f i t) := by
  obtain ⟨te, p, z⟩ := he
  refine ⟨_, ps_fld (pe_var hN hv hd hcd) p hs, fun σ H ss D D' S hw ok => ?_⟩
  subst hm
  refine z σ H ss _ _ S hw fun v H1 r s1 k1 rr q => ?_
  cases es : s1[i]? with
  | none => simp only [es] at q
  | some oo =>
    cases oo with
    | none => simp only [es] at q
    | some o =>
      cases o with
      | ins a0 c ns os =>
        simp only [es] at q
        cases eo : r.own with
        | none => simp only [eo] at q
        | some o =>
          simp only [eo] at q
          have sd := q.1.h
          simp only [Bool.and_eq_true] at sd
          have hr : ∃ bs, Sm X.K G B bs σ H1 s1 ∧ OR X.K G H1 v o bs ∧ bs.Nodup := by
            cases r with
            | d d => cases eo; exact ⟨[], rr.1, .pure rr.2, List.nodup_nil⟩
            | new o' => cases eo; exact rr
            | loc i => cases eo
          obtain ⟨bs, S1, ro, ndb⟩ := hr
          obtain ⟨C, dx, fvs, e1, hc, h1, h2, S2, k2⟩ := S1.insX (f := f) es ro ndb sd.1.2
          obtain ⟨cl, na⟩ := fo.at sd.1.1 hc
          have hl : fvs.length < 1000 := by
            have := congrArg List.length h2
            rw [List.length_map, List.length_map] at this
            have := of_decide_eq_true sd.2
            omega
          exact ⟨_, e1, a0, C, dx, fvs, rfl, h1, cl, na, hl, ok.nx σ _ _ (k1.trans k2) S2 ((fc_iff _ _).mp q.2)⟩
      | _ => simp only [es] at q
end
/-! ## methods of an object that a name holds -/
section
variable {X : Cx} {G : Addr → Prop} {B : Hp} {Wz : WZ} {k j : Nat} {e o a b c : Expr} {es : List Expr} {t to : ZT} {ts : ZTA} {pos apos cpos p np : Pos}
/-- x.m(..), x stands still or is lent for the time -/
def zMthL (tbl : List (Nat × FS)) (m : Nat) (Wz : WZ) (i : Nat) (ts : ZTA) : ZT := fun ss Q => match ss[i]? with
  | some (some (.pure (.obj c ns ds))) => match lookN c tbl with
    | some fs => Sd (noFld m ns = true) ∧ ts ss fun rs s2 => zCallQ fs Wz (.d (.obj c ns ds) :: rs) s2 Q
    | none => False
  | some (some (.ins _ c ns _)) => match lookN (c + 100) tbl with
    | some fs => Sd (noFld m ns = true) ∧ ts ss fun rs s2 => zCallQ fs Wz (.loc i :: rs) s2 Q
    | none => False
  | _ => False
theorem mth_zrL {tbl : List (Nat × FS)} {m i : Nat} {W : WX} {t : TA} (mo : MetsOk X.prog X.w X.K X.mg X.base k m tbl) (hW : ∀ σ H ss cls d c ns ds, Sm X.K G B [] σ H ss → XR X.K G H cls d c ns ds → Wz c ns ds ss → W cls d σ H)
    (zt : ZrA X.K G B t ts) : Zr X.K G B (tMethT X k (attN m) W (tVar i) t) (zMthL tbl m Wz i ts) := by
  intro σ H ss Q R S hw fin
  unfold zMthL at hw
  cases es1 : ss[i]? with
  | none => simp only [es1] at hw
  | some oo =>
    cases oo with
    | none => simp only [es1] at hw
    | some oc =>
      cases oc with
      | pure d =>
        cases d with
        | obj c ns ds =>
          simp only [es1] at hw
          cases el : lookN c tbl with
          | none => simp only [el] at hw
          | some fs =>
            simp only [el] at hw
            obtain ⟨v, hv, rd⟩ := S.pure es1
            have rd0 := rd
            cases rd with
            | @obj a C dx _ ob fvs _ _ hc h1 _ h2 h3 =>
              obtain ⟨f, fd, ps, j, hj, cl, me, F, bd⟩ := mo.at el hc
              refine ⟨.ref a, hv, a, C, dx, fvs, f, fd, ps, j, _, rfl, .inr ⟨_, h1⟩, look_no hw.1.h h2, hj, cl, me, F, bd, ?_⟩
              refine zt σ H ss _ _ S hw.2 fun vs H2 rs s2 k2 S2 ar q2 => ?_
              exact call_at (vs := .ref a :: vs) (rs := .d (.obj c ns ds) :: rs) hW S2 ⟨rd0.kp k2, ar⟩ q2 fun v H' r k3 rr qq => fin v H' r s2 (k2.trans k3) rr qq
        | _ => simp only [es1] at hw
      | ins a0 c ns os =>
        simp only [es1] at hw
        cases el : lookN (c + 100) tbl with
        | none => simp only [el] at hw
        | some fs =>
          simp only [el] at hw
          obtain ⟨v, as, hv, ro⟩ := S.get es1
          cases ro with
          | @ins _ C dx _ fvs _ _ _ hc h1 h2 h3 =>
            obtain ⟨f, fd, ps, j, hj, cl, me, F, bd⟩ := mo.at el (cls100 hc)
            refine ⟨.ref a0, hv, a0, C, dx, fvs, f, fd, ps, j, _, rfl, .inl h1, look_no hw.1.h h2, hj, cl, me, F, bd, ?_⟩
            refine zt σ H ss _ _ S hw.2 fun vs H2 rs s2 k2 S2 ar q2 => ?_
            exact call_at (vs := .ref a0 :: vs) (rs := .loc i :: rs) hW S2 ⟨hv, ar⟩ q2 fun v H' r k3 rr qq => fin v H' r s2 (k2.trans k3) rr qq
      | _ => simp only [es1] at hw
theorem z_mthL {tbl : List (Nat × FS)} {m i : Nat} {x y : Str} {pl : Sem Bool} (C : Ctx X G B Wz k) (mo : MetsOk X.prog X.w X.K X.mg X.base k m tbl) (ha : ZA X G B (e :: es) ts) (hx : x = attN m := by rfl)
    (hN : X.N[i]? = some y := by rfl) (hv : Vis X.env.scope y := by first | exact Or.inl rfl | exact Or.inr (Or.inl rfl) | exact Or.inr (Or.inr rfl)) (hd : (y == ("__debug__" : Str)) = false := by decide) (hcd : (y == ("__classdict__" : Str)) = false := by decide)
    (hst : starEach (e :: es) X.env = (false, eval e X.env) :: starEach es X.env := by rfl) (hpl : (backTo pos (starEach es X.env)).any (·.1) = false := by rfl)
    (ht : eval (.Call (.Attribute (.Name y np) x apos) (e :: es) [] pos) X.env = (do
      let ov ← eval (.Name y np) X.env
      standAt apos.atName
      let (f, first) ← holding [ov] (getMethod ov x pl)
      callWith pos f first (backTo pos (starEach (e :: es) X.env)) (backToKw pos (keywordEach [] X.env))) := by rfl) :
    ZE X G B (.Call (.Attribute (.Name y np) x apos) (e :: es) [] pos) (zMthL tbl m Wz i ts) := by
  obtain ⟨W, tk, hW⟩ := C.wish
  obtain ⟨te, pa, za⟩ := ha
  subst hx
  exact ⟨_, pe_methT (pl := pl) (pe_var hN hv hd hcd) C.room tk pa hst hpl ht, mth_zrL mo hW za⟩
theorem z_mthL0 {tbl : List (Nat × FS)} {m i : Nat} {x y : Str} {pl : Sem Bool} (C : Ctx X G B Wz k) (mo : MetsOk X.prog X.w X.K X.mg X.base k m tbl) (hx : x = attN m := by rfl)
    (hN : X.N[i]? = some y := by rfl) (hv : Vis X.env.scope y := by first | exact Or.inl rfl | exact Or.inr (Or.inl rfl) | exact Or.inr (Or.inr rfl)) (hd : (y == ("__debug__" : Str)) = false := by decide) (hcd : (y == ("__classdict__" : Str)) = false := by decide)
    (ht : eval (.Call (.Attribute (.Name y np) x apos) [] [] pos) X.env = (do
      let ov ← eval (.Name y np) X.env
      standAt apos.atName
      let (f, first) ← holding [ov] (getMethod ov x pl)
      callWith pos f first (backTo pos (starEach [] X.env)) (backToKw pos (keywordEach [] X.env))) := by rfl) :
    ZE X G B (.Call (.Attribute (.Name y np) x apos) [] [] pos) (zMthL tbl m Wz i zaNil) := by
  obtain ⟨W, tk, hW⟩ := C.wish
  subst hx
  exact ⟨_, pe_methT0 (pl := pl) (pe_var hN hv hd hcd) C.room tk ht, mth_zrL (t := tNil) (ts := zaNil) mo hW (fun σ H ss Q R S hw fin => fin [] H [] ss (Kp.refl H) S trivial hw)⟩
end
/-! ## methods that change their object -/
/-- the promise: the fields ahead, what they hold, the arguments; the answer, the fields behind; the same for a raise -/
abbrev FSM := List Nat → List O → List D → (D → List Nat → List O → Prop) → (Nat → List Nat → List D → List Nat → List O → Prop) → Prop
/-- behind a call: all but the object's own is kept, what it owns now it owned or it is new -/
def Step (a : Addr) (as as' : List Addr) (H H' : Hp) : Prop := (∀ b o, b ∉ a :: as → H b = some o → H' b = some o) ∧ ∀ b ∈ as', b ∈ as ∨ H b = none
def toSpM (K : Frag) (c : Nat) (f : FSM) : Sp := fun vs H Q E => ∃ (G : Addr → Prop) (a : Addr) (as : List Addr) (ws : List V) (ns : List Nat) (os : List O) (ds : List D) (Qz : D → List Nat → List O → Prop) (Ez : Nat → List Nat → List D → List Nat → List O → Prop),
  vs = .ref a :: ws ∧ OR K G H (.ref a) (.ins a c ns os) (a :: as) ∧ (a :: as).Nodup ∧ (∀ b ∈ a :: as, ¬ G b) ∧ (∀ b, G b → ∃ o, H b = some o) ∧ DRs K G H ws ds ∧ f ns os ds Qz Ez ∧
  (∀ v H' d ns' os' as', Step a as as' H H' → OR K G H' (.ref a) (.ins a c ns' os') (a :: as') → (a :: as').Nodup → DR K G H' v d → Qz d ns' os' → Q v H') ∧
  ∀ cls d H' cn es ds' ns' os' as', Step a as as' H H' → OR K G H' (.ref a) (.ins a c ns' os') (a :: as') → (a :: as').Nodup → XR K G H' cls d cn es ds' → Ez cn es ds' ns' os' → E cls d H'
theorem step_kp {K : Frag} {G : Addr → Prop} {H H' : Hp} {v : V} {o : O} {a : Addr} {as as' : List Addr} (r : OR K G H v o (a :: as)) (s : Step a as as' H H') : Kp H H' := by
  have h : ∀ b u, H b = some u → ¬ Mut (some u) → H' b = some u := fun b u e n => s.1 b u (fun q => n (by have := (r.there b q).1; rw [e] at this; exact this)) e
  exact ⟨fun a o u e => h a _ e fun q => q, fun a xs e => h a _ e fun q => q, fun a xs e => h a _ e fun q => q⟩
def delHs (H : Hp) (l : List Addr) : Hp := fun b => match l.contains b with
  | true => none
  | false => H b
theorem delHs_in {H : Hp} {l : List Addr} {b : Addr} (h : b ∈ l) : delHs H l b = none := by unfold delHs; rw [List.contains_iff_mem.mpr h]
theorem delHs_out {H : Hp} {l : List Addr} {b : Addr} (h : b ∉ l) : delHs H l b = H b := by
  unfold delHs
  cases e : l.contains b with
  | true => exact absurd (List.contains_iff_mem.mp e) h
  | false => rfl
theorem delHs_some {H : Hp} {l : List Addr} {b : Addr} {o : HO} (h : delHs H l b = some o) : b ∉ l ∧ H b = some o := by
  by_cases q : b ∈ l
  · rw [delHs_in q] at h; cases h
  · exact ⟨q, by rw [delHs_out q] at h; exact h⟩
theorem args_smM {K : Frag} {G : Addr → Prop} {H : Hp} {N : List Str} {vs : List V} {ds : List D} {a c : Nat} {as : List Addr} {ns : List Nat} {os : List O} (ro : OR K G H (.ref a) (.ins a c ns os) (a :: as)) (nd : (a :: as).Nodup) (hn : ∀ b ∈ a :: as, ¬ G b) (hg : ∀ a, G a → ∃ o, H a = some o) (r : DRs K G H vs ds) (hl : ds.length + 1 ≤ N.length) :
    Sm K G (delHs H (a :: as)) [] (L2.start N (.ref a :: vs)) H (some (.ins a c ns os) :: args ds (N.length - 1)) := by
  have S0 : Sm K G H [] (L2.start N (.ref a :: vs)) H (args (.adr a :: ds) N.length) := args_sm hg (.cons (.adr a) r) (by simp; omega)
  obtain ⟨A, W⟩ := S0.own
  have e0 : args (.adr a :: ds) N.length = some (.pure (.adr a)) :: args ds (N.length - 1) := by
    unfold args
    rw [argS_map, argS_map, List.map_cons, List.cons_append, List.length_cons]
    congr 3
    omega
  have hA : ∀ i, A i = [] := fun i => by
    cases e : A i with
    | nil => rfl
    | cons b bs =>
      exfalso
      have hb : b ∈ A i := by rw [e]; simp
      by_cases q : ∃ o, (args (.adr a :: ds) N.length)[i]? = some (some o)
      · obtain ⟨o, ho⟩ := q
        have hp : ∃ d, o = .pure d := by
          unfold args at ho; rw [argS_map] at ho
          by_cases hi : i < (D.adr a :: ds).length
          · rw [List.getElem?_append_left (by simpa using hi), List.getElem?_map] at ho
            cases e2 : (D.adr a :: ds)[i]? with
            | none => rw [e2] at ho; cases ho
            | some d => rw [e2] at ho; cases ho; exact ⟨d, rfl⟩
          · rw [List.getElem?_append_right (by simpa using hi)] at ho
            rw [List.getElem?_replicate] at ho
            split at ho <;> cases ho
        obtain ⟨d, rfl⟩ := hp
        obtain ⟨v, _, ro⟩ := W.at_ i _ ho
        rw [e] at ro
        cases ro
      · have := W.off i fun o ho => q ⟨o, ho⟩
        rw [e] at this; cases this
  refine ⟨fun b o e => (delHs_some e).2, ⟨fun i => if i = 0 then a :: as else [], fun i o h => ?_, fun i => ?_, fun i j b h1 h2 => ?_, fun i b h => ?_, fun i q => ?_⟩, fun b h => by simp at h, fun b g => ?_, ?_⟩
  · cases i with
    | zero =>
      simp at h; subst h
      exact ⟨.ref a, by simp [L2.start], ro⟩
    | succ i =>
      rw [List.getElem?_cons_succ] at h
      obtain ⟨v, e1, ro⟩ := W.at_ (i + 1) o (by rw [e0, List.getElem?_cons_succ]; exact h)
      rw [hA] at ro
      exact ⟨v, e1, ro⟩
  · by_cases q : i = 0
    · simp only [if_pos q]; exact nd
    · simp only [if_neg q]; exact List.nodup_nil
  · by_cases q1 : i = 0
    · by_cases q2 : j = 0
      · omega
      · simp [q2] at h2
    · simp [q1] at h1
  · by_cases q1 : i = 0
    · simp only [if_pos q1] at h
      exact ⟨delHs_in h, by simp⟩
    · simp [q1] at h
  · by_cases q1 : i = 0
    · subst q1; exact absurd (by simp) (q (.ins a c ns os))
    · simp [q1]
  · obtain ⟨o, h⟩ := hg b g
    exact ⟨o, by rw [delHs_out (fun q => hn b q g)]; exact h⟩
  · have := S0.len
    rw [e0] at this
    simpa using this
/-- the object in slot 0 at the end -/
def selfK (a0 c : Nat) (Q : List Nat → List O → Prop) : SS → Prop := fun s => match s with
  | some (.ins a c' ns os) :: _ => (a = a0 ∧ c' = c) ∧ Q ns os
  | _ => False
def retM (a0 c : Nat) (Q : D → List Nat → List O → Prop) : RV → SS → Prop := fun r s => match r with
  | .d d => selfK a0 c (Q d) s
  | _ => False
theorem selfK.out {K : Frag} {G : Addr → Prop} {H H' : Hp} {a c : Nat} {as : List Addr} {Q : List Nat → List O → Prop} {σ : St} {ss : SS} (S : Sm K G (delHs H (a :: as)) [] σ H' ss) (q : selfK a c Q ss) :
    ∃ as' ns os, Step a as as' H H' ∧ OR K G H' (.ref a) (.ins a c ns os) (a :: as') ∧ (a :: as').Nodup ∧ Q ns os := by
  unfold selfK at q
  match ss, S, q with
  | some (.ins a' c' ns os) :: rest, S, q =>
    obtain ⟨⟨e1, e2⟩, qq⟩ := q
    subst e1 e2
    obtain ⟨A, W⟩ := S.own
    obtain ⟨v, _, r⟩ := W.at_ 0 _ rfl
    have nd := W.nd 0
    have fr := W.fr 0
    generalize A 0 = l at r nd fr
    have r0 := r
    cases r with
    | @ins _ C dx _ fvs _ _ as' hc h1 h2 h3 =>
      refine ⟨as', ns, os, ⟨fun b o nb e => S.keep b o (by rw [delHs_out nb]; exact e), fun b hb => ?_⟩, r0, nd, qq⟩
      have h := (fr b (List.mem_cons_of_mem _ hb)).1
      by_cases q : b ∈ a' :: as
      · rcases List.mem_cons.mp q with rfl | q
        · exact absurd hb (List.nodup_cons.mp nd).1
        · exact .inl q
      · rw [delHs_out q] at h; exact .inr h
theorem fn_zM {P : Program} {w : World} {K : Frag} {mg : Str → Option Value} {base : Heap} {qual : Str} {bd : List Stmt} {sc : Scope} {f : Addr} {fd : FuncData} {N ps : List Str} {k c : Nat} {fs : FSM}
    (F : ∀ (sp : Sp), (∀ vs H Q E, sp vs H Q E → vs.length = ps.length) →
      (∀ (cdv : Value) (A : Around) (outer : List Env) (s : Shared) (H : Hp) (vs : List V) (Q : VK) (E : XK), Room k (A.deeper (PyProof.Rows.envOfC qual sc s.heap.objs.size f cdv)) → sp vs H Q E →
        ∃ t, PSs (cxOf (L2.CX P w) P w K mg base N qual sc f cdv A outer s H E) bd t ∧ t { nx := fun _ H' => Q .non H', rt := Q } (start N vs) H) → FnOk P w K mg base (L2.CX P w) (k + 1) f fd ps sp) (S : FnScope N ps sc)
    (hl : ∀ ns os ds Q E, fs ns os ds Q E → ds.length + 1 = ps.length) (zs : WZ → ZTS)
    (body : ∀ (cdv : Value) (A : Around) (outer : List Env) (s : Shared) (H : Hp) (E : XK) (G : Addr → Prop) (B : Hp) (Wz : WZ), Ctx (cxOf (L2.CX P w) P w K mg base N qual sc f cdv A outer s H E) G B Wz k →
      ZSs (cxOf (L2.CX P w) P w K mg base N qual sc f cdv A outer s H E) G B bd (zs Wz))
    (read : ∀ a ns os ds Qz Ez, fs ns os ds Qz Ez → zs (fun cls es es' s => selfK a c (Ez cls es es') s) ⟨selfK a c (Qz .non), retM a c Qz, fun _ => False, fun _ => False⟩ (some (.ins a c ns os) :: args ds (N.length - 1))) :
    FnOk P w K mg base (L2.CX P w) (k + 1) f fd ps (toSpM K c fs) := by
  have hlen : ∀ vs H Q E, toSpM K c fs vs H Q E → vs.length = ps.length := fun vs H Q E ⟨G, a, as, ws, ns, os, ds, Qz, Ez, e, _, _, _, _, hd, hf, _⟩ => by subst e; rw [List.length_cons, hd.length]; exact hl ns os ds Qz Ez hf
  have hps : ps.length ≤ N.length := by have := congrArg List.length S.pre; rw [List.length_take] at this; omega
  refine F _ hlen fun cdv A outer s H vs Q E hr hsp => ?_
  obtain ⟨G, a, as, ws, ns, os, ds, Qz, Ez, e, ro, nd, hna, hg, hd, hf, hq, he⟩ := hsp
  subst e
  have C' : Ctx (cxOf (L2.CX P w) P w K mg base N qual sc f cdv A outer s H E) G (delHs H (a :: as)) (fun cls es es' s => selfK a c (Ez cls es es') s) k :=
    ⟨hr, S.nd, rfl, passes_of rfl, ⟨_, takes_of rfl rfl rfl rfl, fun σ H' ss cls d cn es ds' S' xr q => by
      obtain ⟨as', ns', os', h1, h2, h3, h4⟩ := selfK.out S' q
      exact he cls d H' cn es ds' ns' os' as' h1 h2 h3 xr h4⟩⟩
  obtain ⟨ts, p, r⟩ := body cdv A outer s H E G (delHs H (a :: as)) _ C'
  have hle : ds.length + 1 ≤ N.length := by rw [hl ns os ds Qz Ez hf]; exact hps
  refine ⟨ts, p, r _ H _ _ _ (args_smM ro nd hna hg hd hle) (read a ns os ds Qz Ez hf) ⟨fun σ' H' ss' k S' q => ?_, fun σ' v H' r ss' k rr q => ?_, fun _ _ _ _ _ q => q.elim, fun _ _ _ _ _ q => q.elim⟩⟩
  · obtain ⟨as', ns', os', h1, h2, h3, h4⟩ := selfK.out S' q
    exact hq .non H' .non ns' os' as' h1 h2 h3 .non h4
  · cases r with
    | d x =>
      obtain ⟨as', ns', os', h1, h2, h3, h4⟩ := selfK.out rr.1 q
      exact hq v H' x ns' os' as' h1 h2 h3 rr.2 h4
    | new o => exact q.elim
    | loc i => exact q.elim
section
variable {X : Cx} {G : Addr → Prop} {B : Hp} {Wz : WZ} {k j : Nat} {e o a b c : Expr} {es : List Expr} {t to : ZT} {ts : ZTDs} {pos apos cpos p np : Pos}
def tMethM (X : Cx) (k : Nat) (m : Str) (W : WX) (ta : TE) (t : TA) : TE := fun σ H Q => ta σ H fun x H1 => ∃ (a C dx : Addr) (fs : List (Str × V)) (f : Addr) (fd : FuncData) (ps : List Str) (j : Nat) (sp : Sp), x = .ref a ∧ Rd H1 a (.ins C dx fs) ∧ fs.lookup m = none ∧
  j ≤ k ∧ Cls X.K C ∧ Meth X.K C m f ∧ FnOk X.prog X.w X.K X.mg X.base (L2.CX X.prog X.w) j f fd ps sp ∧ Binds X.K fd ps [] ∧
  t σ H1 fun vs H2 => sp (x :: vs) H2 Q fun cls d H' => W cls d σ H'
theorem pe_methM {pl : Sem Bool} {m : Str} {W : WX} {ta : TE} {t : TA} (he : PE X o ta) (hr : Room k X.A) (tk : Takes X W) (ha : PA X (e :: es) t)
    (hst : starEach (e :: es) X.env = (false, eval e X.env) :: starEach es X.env := by rfl) (hpl : (backTo pos (starEach es X.env)).any (·.1) = false := by rfl)
    (ht : eval (.Call (.Attribute o m apos) (e :: es) [] pos) X.env = (do
      let ov ← eval o X.env
      standAt apos.atName
      let (f, first) ← holding [ov] (getMethod ov m pl)
      callWith pos f first (backTo pos (starEach (e :: es) X.env)) (backToKw pos (keywordEach [] X.env))) := by rfl) :
    PE X (.Call (.Attribute o m apos) (e :: es) [] pos) (tMethM X k m W ta t) := by
  refine ⟨fun pins s σ H Q I h => ?_⟩
  refine PySem.W.methodCall_KW (pl := pl) (thn (he.run pins s σ H _ I h) fun u s1 ⟨x, H1, I1, rx, a, C, dx, fs, f, fd, ps, j, sp, ex, ea, l, hj, c, hm, F, hb, q⟩ => ?_) ht
  subst ex
  obtain rfl : u = Value.ref a := rx
  refine getmeth_okR I1 ea c hm l ?_
  refine PySem.W.callWith_K (first := [.ref a]) (h₀ := X.base) I.ok.mod.kin hm.kp (thn (ha.run pos pins s1 σ H1 _ I1 q) fun us s2 ⟨vs, H2, I2, r, q2⟩ => ⟨I2.kIn, ?_⟩) hst hpl
  exact run_fnS (us := .ref a :: us) (vs := .ref a :: vs) (E := fun σ cls d H' => W cls d σ H') F (hr.mono hj) hb (fun pins2 H2 s2 e s' J c => tk _ _ (XE.of_call J (fun _ _ _ z => z) c)) I2 (.cons rfl r) q2
theorem pe_methM0 {pl : Sem Bool} {m : Str} {W : WX} {ta : TE} (he : PE X o ta) (hr : Room k X.A) (tk : Takes X W)
    (ht : eval (.Call (.Attribute o m apos) [] [] pos) X.env = (do
      let ov ← eval o X.env
      standAt apos.atName
      let (f, first) ← holding [ov] (getMethod ov m pl)
      callWith pos f first (backTo pos (starEach [] X.env)) (backToKw pos (keywordEach [] X.env))) := by rfl) :
    PE X (.Call (.Attribute o m apos) [] [] pos) (tMethM X k m W ta tNil) := by
  refine ⟨fun pins s σ H Q I h => ?_⟩
  refine PySem.W.methodCall_KW (pl := pl) (thn (he.run pins s σ H _ I h) fun u s1 ⟨x, H1, I1, rx, a, C, dx, fs, f, fd, ps, j, sp, ex, ea, l, hj, c, hm, F, hb, q⟩ => ?_) ht
  subst ex
  obtain rfl : u = Value.ref a := rx
  refine getmeth_okR I1 ea c hm l ?_
  exact PySem.W.callWith_K0 (first := [.ref a]) I1.kIn hm.kp (run_fnS (us := [.ref a]) (vs := [.ref a]) (E := fun σ cls d H' => W cls d σ H') F (hr.mono hj) hb (fun pins2 H2 s2 e s' J c => tk _ _ (XE.of_call J (fun _ _ _ z => z) c)) I1 (.cons rfl .nil) q)
inductive MetsMOk (P : Program) (w : World) (K : Frag) (mg : Str → Option Value) (base : Heap) (k m : Nat) : List (Nat × FSM) → Prop
  | nil : MetsMOk P w K mg base k m []
  | cons {c : Nat} {C f : Addr} {fd : FuncData} {ps : List Str} {j : Nat} {fs : FSM} {tbl : List (Nat × FSM)} : ClsAt K c C → Cls K C → Meth K C (attN m) f → FnOk P w K mg base (L2.CX P w) j f fd ps (toSpM K c fs) → Binds K fd ps [] → j ≤ k → MetsMOk P w K mg base k m tbl → MetsMOk P w K mg base k m ((c, fs) :: tbl)
theorem MetsMOk.at {P : Program} {w : World} {K : Frag} {mg : Str → Option Value} {base : Heap} {k m c : Nat} {C : Addr} {fs : FSM} : ∀ {tbl : List (Nat × FSM)}, MetsMOk P w K mg base k m tbl → lookN c tbl = some fs → ClsAt K c C →
    ∃ f fd ps j, j ≤ k ∧ Cls K C ∧ Meth K C (attN m) f ∧ FnOk P w K mg base (L2.CX P w) j f fd ps (toSpM K c fs) ∧ Binds K fd ps []
  | _, .nil, h, _ => by cases h
  | _, .cons (c := c1) a b d F bd hj t, h, hc => by
    unfold lookN at h
    cases e : c1 == c with
    | true =>
      rw [e] at h
      have e1 : c1 = c := by simpa using e
      subst e1
      cases h
      cases ClsAt.eq a hc
      exact ⟨_, _, _, _, hj, b, d, F, bd⟩
    | false =>
      rw [e] at h
      exact t.at h hc
/-- x.m(..), x changes -/
def zMthM (tbl : List (Nat × FSM)) (m i : Nat) (Wz : WZ) (ts : ZTDs) : ZT := fun ss Q => match ss[i]? with
  | some (some (.ins _ c ns _)) => match lookN c tbl with
    | some fs => Sd (noFld m ns = true) ∧ ts ss fun ds s2 => match s2[i]? with
      | some (some (.ins a c' ns os)) => match Nat.beq c' c with
        | true => fs ns os ds (fun d ns' os' => fc (s2.set i (some (.ins a c ns' os'))) fun s' => Q (.d d) s') fun cls es es' ns' os' => Wz cls es es' (s2.set i (some (.ins a c ns' os')))
        | false => False
      | _ => False
    | none => False
  | _ => False
theorem mth_zrM {tbl : List (Nat × FSM)} {m i : Nat} {W : WX} {t : TA} (mo : MetsMOk X.prog X.w X.K X.mg X.base k m tbl) (hW : ∀ σ H ss cls d c ns ds, Sm X.K G B [] σ H ss → XR X.K G H cls d c ns ds → Wz c ns ds ss → W cls d σ H)
    (zt : ZrDs X.K G B t ts) : Zr X.K G B (tMethM X k (attN m) W (tVar i) t) (zMthM tbl m i Wz ts) := by
  intro σ H ss Q R S hw fin
  unfold zMthM at hw
  cases es1 : ss[i]? with
  | none => simp only [es1] at hw
  | some oo =>
    cases oo with
    | none => simp only [es1] at hw
    | some oc =>
      cases oc with
      | ins a0 c ns os =>
        simp only [es1] at hw
        cases el : lookN c tbl with
        | none => simp only [el] at hw
        | some fs =>
          simp only [el] at hw
          obtain ⟨v, as, hv, ro⟩ := S.get es1
          cases ro with
          | @ins _ C dx _ fvs _ _ _ hc h1 h2 h3 =>
            obtain ⟨f, fd, ps, j, hj, cl, me, F, bd⟩ := mo.at el hc
            refine ⟨.ref a0, hv, a0, C, dx, fvs, f, fd, ps, j, _, rfl, .inl h1, look_no hw.1.h h2, hj, cl, me, F, bd, ?_⟩
            refine zt σ H ss _ _ S hw.2 fun vs H2 ds s2 k2 S2 rs q2 => ?_
            cases es2 : s2[i]? with
            | none => simp only [es2] at q2
            | some oo =>
              cases oo with
              | none => simp only [es2] at q2
              | some oc =>
                cases oc with
                | ins a1 c1 ns1 os1 =>
                  simp only [es2] at q2
                  cases ec : Nat.beq c1 c with
                  | false => simp only [ec] at q2
                  | true =>
                    simp only [ec] at q2
                    obtain rfl : c1 = c := Nat.eq_of_beq_eq_true ec
                    obtain ⟨v', as1, hv', ro1, nd, S3⟩ := S2.take es2
                    rw [hv] at hv'; cases hv'
                    have ro2 := ro1
                    cases ro1 with
                    | @ins _ C1 dx1 _ fvs1 _ _ as1 hc1 g1 g2 g3 =>
                      have back : ∀ {as' H'}, Step a0 as1 as' H2 H' → Sm X.K G B (a0 :: as') σ H' (s2.set i none) := fun {as' H'} st => S3.swap st.1 (step_kp ro2 st) fun b hb => by
                        rcases List.mem_cons.mp hb with rfl | hb
                        · exact .inl (by simp)
                        · exact (st.2 b hb).imp (fun q => List.mem_cons_of_mem _ q) fun q => q
                      have fill : ∀ {as' H' ns' os'}, Step a0 as1 as' H2 H' → OR X.K G H' (.ref a0) (.ins a0 c1 ns' os') (a0 :: as') → (a0 :: as').Nodup → Sm X.K G B [] σ H' (s2.set i (some (.ins a0 c1 ns' os'))) := fun {as' H' ns' os'} st r nd' => by
                        have := (back st).put (i := i) hv r nd'
                        rw [List.set_set] at this; exact this
                      refine ⟨G, a0, as1, vs, ns1, os1, ds, _, _, rfl, ro2, nd, fun b hb g => ?_, fun b g => ?_, rs, q2, fun v H' d ns' os' as' st r nd' rd qq => ?_, fun cls d H' cn es ds' ns' os' as' st r nd' xr w => ?_⟩
                      · obtain ⟨o, h⟩ := S3.gb b g
                        rw [S3.nn b hb] at h; cases h
                      · obtain ⟨o, h⟩ := S3.gb b g
                        exact ⟨o, S3.keep b o h⟩
                      · exact fin v H' (.d d) _ (k2.trans (step_kp ro2 st)) ⟨fill st r nd', rd⟩ ((fc_iff _ _).mp qq)
                      · exact hW σ H' _ cls d cn es ds' (fill st r nd') xr w
                | _ => simp only [es2] at q2
      | _ => simp only [es1] at hw
theorem z_mthM {tbl : List (Nat × FSM)} {m i : Nat} {x y : Str} {pl : Sem Bool} (C : Ctx X G B Wz k) (mo : MetsMOk X.prog X.w X.K X.mg X.base k m tbl) (ha : ZDs X G B (e :: es) ts) (hx : x = attN m := by rfl)
    (hN : X.N[i]? = some y := by rfl) (hv : Vis X.env.scope y := by first | exact Or.inl rfl | exact Or.inr (Or.inl rfl) | exact Or.inr (Or.inr rfl)) (hd : (y == ("__debug__" : Str)) = false := by decide) (hcd : (y == ("__classdict__" : Str)) = false := by decide)
    (hst : starEach (e :: es) X.env = (false, eval e X.env) :: starEach es X.env := by rfl) (hpl : (backTo pos (starEach es X.env)).any (·.1) = false := by rfl)
    (ht : eval (.Call (.Attribute (.Name y np) x apos) (e :: es) [] pos) X.env = (do
      let ov ← eval (.Name y np) X.env
      standAt apos.atName
      let (f, first) ← holding [ov] (getMethod ov x pl)
      callWith pos f first (backTo pos (starEach (e :: es) X.env)) (backToKw pos (keywordEach [] X.env))) := by rfl) :
    ZE X G B (.Call (.Attribute (.Name y np) x apos) (e :: es) [] pos) (zMthM tbl m i Wz ts) := by
  obtain ⟨W, tk, hW⟩ := C.wish
  obtain ⟨te, pa, za⟩ := ha
  subst hx
  exact ⟨_, pe_methM (pl := pl) (pe_var hN hv hd hcd) C.room tk pa hst hpl ht, mth_zrM mo hW za⟩
theorem z_mthM0 {tbl : List (Nat × FSM)} {m i : Nat} {x y : Str} {pl : Sem Bool} (C : Ctx X G B Wz k) (mo : MetsMOk X.prog X.w X.K X.mg X.base k m tbl) (hx : x = attN m := by rfl)
    (hN : X.N[i]? = some y := by rfl) (hv : Vis X.env.scope y := by first | exact Or.inl rfl | exact Or.inr (Or.inl rfl) | exact Or.inr (Or.inr rfl)) (hd : (y == ("__debug__" : Str)) = false := by decide) (hcd : (y == ("__classdict__" : Str)) = false := by decide)
    (ht : eval (.Call (.Attribute (.Name y np) x apos) [] [] pos) X.env = (do
      let ov ← eval (.Name y np) X.env
      standAt apos.atName
      let (f, first) ← holding [ov] (getMethod ov x pl)
      callWith pos f first (backTo pos (starEach [] X.env)) (backToKw pos (keywordEach [] X.env))) := by rfl) :
    ZE X G B (.Call (.Attribute (.Name y np) x apos) [] [] pos) (zMthM tbl m i Wz zdNil) := by
  obtain ⟨W, tk, hW⟩ := C.wish
  subst hx
  exact ⟨_, pe_methM0 (pl := pl) (pe_var hN hv hd hcd) C.room tk ht, mth_zrM (t := tNil) (ts := zdNil) mo hW (fun σ H ss Q R S hw fin => fin [] H [] ss (Kp.refl H) S .nil hw)⟩
/-- C(..), the instance keeps what it owns -/
def zMakeM (c : Nat) (fs : FSM) (dds : List D) (Wz : WZ) (ts : ZTDs) : ZT := fun ss Q => ts ss fun ds s => Al fun a => fs [] [] (ds ++ dds) (fun d ns os => match d with
  | .non => Q (.new (.ins a c ns os)) s
  | _ => False) fun cls es es' _ _ => Wz cls es es' s
theorem z_makeM {c : Nat} {C f : Addr} {fd : FuncData} {ps : List Str} {ds : List Value} {dvs : List V} {dds : List D} {fs : FSM} {x : Str} (Cc : Ctx X G B Wz k) (hc : ClsAt X.K c C) (M : Mk X.K C f)
    (F : FnOk X.prog X.w X.K X.mg X.base (L2.CX X.prog X.w) j f fd ps (toSpM X.K c fs)) (hj : j + 1 ≤ k) (hm : X.mg x = some (.ref C)) (hb : Binds X.K fd ps ds) (hd : Vals dvs ds) (hdd : ∀ G H, DRs X.K G H dvs dds)
    (ha : ZDs X G B (e :: es) ts) (hg : Gl X x := by rfl) (hdb : (x == ("__debug__" : Str)) = false := by decide) (he : starEach (e :: es) X.env = (false, eval e X.env) :: starEach es X.env := by rfl) (hpl : (backTo pos (starEach es X.env)).any (·.1) = false := by rfl) :
    ZE X G B (.Call (.Name x p) (e :: es) [] pos) (zMakeM c fs dds Wz ts) := by
  obtain ⟨W, tk, hW⟩ := Cc.wish
  obtain ⟨te, pa, za⟩ := ha
  refine ⟨_, pe_makeE M F (Cc.room.mono hj) hg hm hb hd tk pa hdb he hpl, fun σ H ss Q R S hw fin => ?_⟩
  refine za σ H ss _ _ S hw fun vs H1 es' s1 k1 S1 rs q => ?_
  intro x dx n1 n2 ne
  have sm : Same H1 (upd (upd H1 dx (.own x)) x (.ins C dx [])) := fun b o e => by
    rw [upd_ne (ne_of_none e n1), upd_ne (ne_of_none e n2)]; exact e
  have sm2 : ∀ {as' : List Addr} {H' : Hp}, Step x [] as' (upd (upd H1 dx (.own x)) x (.ins C dx [])) H' → Same H1 H' := fun {as' H'} h b o e => h.1 b o (by simpa using ne_of_none e n1) (sm b o e)
  have fr : ∀ {as' : List Addr} {H' : Hp}, Step x [] as' (upd (upd H1 dx (.own x)) x (.ins C dx [])) H' → ∀ b ∈ x :: as', H1 b = none := fun {as' H'} h b hb => by
    rcases List.mem_cons.mp hb with rfl | hb
    · exact n1
    · rcases h.2 b hb with q | q
      · simp at q
      · cases e : H1 b with
        | none => rfl
        | some o => rw [sm b o e] at q; cases q
  refine ⟨G, x, [], vs ++ dvs, [], [], es' ++ dds, _, _, rfl, .ins hc upd_same rfl .nil, by simp, fun b hb g => ?_, fun a g => ?_, (DRs.append' rs (hdd G H1)).kp (Kp.of sm), q.h x, fun v H' d ns os as' st ro nd rd qq => ?_, fun cls d H' cn es ds' ns os as' st ro nd xr w => ?_⟩
  · obtain ⟨o, h⟩ := S1.gb b g
    have := S1.keep _ _ h
    rw [List.mem_singleton.mp hb, n1] at this; cases this
  · obtain ⟨o, h⟩ := S1.gb a g
    exact ⟨o, sm _ _ (S1.keep _ _ h)⟩
  · cases d with
    | non =>
      cases rd
      exact ⟨rfl, fin (.ref x) H' (.new (.ins x c ns os)) s1 (k1.trans (Kp.of (sm2 st))) ⟨x :: as', S1.alloc (sm2 st) (fr st), ro, nd⟩ qq⟩
    | _ => exact qq.elim
  · exact hW σ H' s1 cls d cn es ds' (S1.same (sm2 st)) xr w
end
/-! ### x.f.append(y) -/
theorem fld_lst {K : Frag} {G : Addr → Prop} {H : Hp} {f : Nat} {xs : List D} : ∀ {ns : List Nat} {os : List O} {as : List Addr} {fvs : List (Str × V)}, fldOk f ns = true → fvs.map (·.1) = ns.map attN → ORs K G H (fvs.map (·.2)) os as → as.Nodup → fldAt f ns os = some (.lst xs) →
    ∃ l vs, fvs.lookup (attN f) = some (.ref l) ∧ l ∈ as ∧ H l = some (.lst vs) ∧ DRs K G H vs xs ∧ ∀ vs' xs', DRs K G H vs' xs' → ORs K G (upd H l (.lst vs')) (fvs.map (·.2)) (putO f (.lst xs') ns os) as
  | [], os, as, fvs, _, _, _, _, h => by cases h
  | n :: ns, [], as, fvs, _, _, _, _, h => by cases h
  | n :: ns, x :: os, as, fvs, ok, e, r, nd, h => by
    obtain ⟨p, l', rfl, e1, e2⟩ := map_cons_inv e
    obtain ⟨pn, pv⟩ := p
    have e4 : pn = attN n := e1
    subst e4
    rw [List.map_cons] at r
    cases r with
    | @cons _ _ _ _ as1 as2 r1 r2 =>
      obtain ⟨nd1, nd2, nd3⟩ := List.nodup_append.mp nd
      unfold fldOk at ok
      rw [List.all_cons, Bool.and_eq_true, Bool.and_eq_true] at ok
      unfold fldAt at h
      cases q : n == f with
      | true =>
        rw [q] at h
        have e3 : n = f := by simpa using q
        subst e3
        have hx : x = .lst xs := by simpa using h
        subst hx
        cases r1 with
        | @lst l vs _ h1 h2 =>
          refine ⟨l, vs, by rw [List.lookup_cons]; simp, by simp, h1, h2, fun vs' xs' r' => ?_⟩
          have kp : Kp H (upd H l (.lst vs')) := Kp.upd h1 trivial
          unfold putO
          rw [q, List.map_cons]
          exact .cons (as := [l]) (.lst upd_same (r'.kp kp)) (r2.kp kp fun b hb => upd_ne fun q => nd3 l (by simp) b hb q.symm)
      | false =>
        rw [q] at h
        have ne : n ≠ f := by simpa using q
        obtain ⟨l, vs, g1, g2, g3, g4, g5⟩ := fld_lst (fvs := l') (by unfold fldOk; rw [ok.1, ok.2.2]; rfl) e2 r2 nd2 h
        refine ⟨l, vs, ?_, List.mem_append_right _ g2, g3, g4, fun vs' xs' r' => ?_⟩
        · have : (attN f == attN n) = false := beq_eq_false_iff_ne.mpr (attN_ne ok.1 ok.2.1 (Ne.symm ne))
          rw [List.lookup_cons, this]; exact g1
        · have kp : Kp H (upd H l (.lst vs')) := Kp.upd g3 trivial
          unfold putO
          rw [q, List.map_cons]
          exact .cons (r1.kp kp fun b hb => upd_ne fun q => nd3 b hb l g2 q) (g5 vs' xs' r')
section
variable {X : Cx} {G : Addr → Prop} {B : Hp} {Wz : WZ} {k j : Nat} {pos apos cpos p np : Pos} {σ : St} {H : Hp} {ss : SS}
theorem Sm.fldL {K : Frag} (S : Sm K G B [] σ H ss) {i a0 c f : Nat} {ns : List Nat} {os : List O} {xs : List D} (h : ss[i]? = some (some (.ins a0 c ns os))) (ok : fldOk f ns = true) (hf : fldAt f ns os = some (.lst xs)) :
    ∃ C dx fvs l vs, σ[i]? = some (some (.ref a0)) ∧ ClsAt K c C ∧ H a0 = some (.ins C dx fvs) ∧ fvs.lookup (attN f) = some (.ref l) ∧ H l = some (.lst vs) ∧ DRs K G H vs xs ∧
    ∀ vs' xs', DRs K G H vs' xs' → Sm K G B [] σ (upd H l (.lst vs')) (ss.set i (some (.ins a0 c ns (putO f (.lst xs') ns os)))) := by
  obtain ⟨v, as, e, r, nd, S1⟩ := S.take h
  cases r with
  | @ins _ C dx _ fvs _ _ as hc h1 h2 h3 =>
    rw [List.nodup_cons] at nd
    obtain ⟨l, vs, g1, g2, g3, g4, g5⟩ := fld_lst ok h2 h3 nd.2 hf
    refine ⟨C, dx, fvs, l, vs, e, hc, h1, g1, g3, g4, fun vs' xs' r' => ?_⟩
    have na : a0 ≠ l := fun q => nd.1 (q ▸ g2)
    obtain ⟨S2, kp⟩ := S1.updN (a := l) (w := .lst vs') (List.mem_cons_of_mem _ g2) g3 trivial
    have S3 := S2.put (i := i) (o := .ins a0 c ns (putO f (.lst xs') ns os)) e (.ins hc (by rw [upd_ne na]; exact h1) h2 (g5 vs' xs' r')) (List.nodup_cons.mpr nd)
    rw [List.set_set] at S3
    exact S3
def zMetF (z : ZMt) (cs : List Nat) (f i j : Nat) : ZT := fun ss Q => match ss[i]? with
  | some (some (.ins a c ns os)) => match fldAt f ns os with
    | some (.lst xs) => match ss[j]? with
      | some (some (.pure d)) => Sd ((cs.contains c && fldOk f ns) = true) ∧ z xs [d] fun r xs' => fc (ss.set i (some (.ins a c ns (putO f (.lst xs') ns os)))) fun s' => Q (.d r) s'
      | _ => False
    | _ => False
  | _ => False
theorem z_metF (j : Nat) {cs : List Nat} {f i : Nat} {x y m name : Str} {id : String} {z : ZMt} {fp yp : Pos} (hz : MtZ X id z) (pa : PlainAttrs "list") (slot : Slot "list" name id) (hty : typeOf (.builtin id) = pure (.type "method_descriptor")) (fo : FldOk X.K f cs)
    (hm : m = attN f := by rfl)
    (hN : X.N[i]? = some x := by rfl) (hv : Vis X.env.scope x := by first | exact Or.inl rfl | exact Or.inr (Or.inl rfl) | exact Or.inr (Or.inr rfl)) (hd : (x == ("__debug__" : Str)) = false := by decide) (hcd : (x == ("__classdict__" : Str)) = false := by decide)
    (hN2 : X.N[j]? = some y := by rfl) (hv2 : Vis X.env.scope y := by first | exact Or.inl rfl | exact Or.inr (Or.inl rfl) | exact Or.inr (Or.inr rfl)) (hd2 : (y == ("__debug__" : Str)) = false := by decide) (hcd2 : (y == ("__classdict__" : Str)) = false := by decide)
    (hb : attributeBase (.Name x np) m X.env (eval (.Name x np) X.env) = eval (.Name x np) X.env := by rfl)
    (hbase : attributeBase (.Attribute (.Name x np) m fp) name X.env (eval (.Attribute (.Name x np) m fp) X.env) = eval (.Attribute (.Name x np) m fp) X.env := by rfl)
    (hfew : ((backTo cpos (starEach [.Name y yp] X.env)).all (fun x => !x.1) && (backToKw cpos (keywordEach [] X.env)).all (fun x => x.1.isSome)
      && decide (([.Name y yp] : List Expr).length + ([] : List Keyword).length + (if ([] : List Keyword).isEmpty then 0 else 1) < 30)) = true := by rfl)
    (hline : (apos.endLine == cpos.line) = true := by rfl) (hs : starEach [.Name y yp] X.env = (false, eval (.Name y yp) X.env) :: starEach [] X.env := by rfl) (hplain : (backTo cpos (starEach [] X.env)).any (·.1) = false := by rfl) :
    ZE X G B (.Call (.Attribute (.Attribute (.Name x np) m fp) name apos) [.Name y yp] [] cpos) (zMetF z cs f i j) := by
  obtain ⟨r, h1, h2⟩ := hz
  refine ⟨_, pe_bm pa slot hty h1 (pe_fldR (pe_var hN hv hd hcd) hb) (pa_cons (pe_var hN2 hv2 hd2 hcd2) pa_nil hs) hbase hfew hline hs hplain, fun σ H ss Q R S hw fin => ?_⟩
  subst hm
  unfold zMetF at hw
  cases es1 : ss[i]? with
  | none => simp only [es1] at hw
  | some oo =>
    cases oo with
    | none => simp only [es1] at hw
    | some oc =>
      cases oc with
      | ins a0 c ns os =>
        simp only [es1] at hw
        cases ef : fldAt f ns os with
        | none => simp only [ef] at hw
        | some of =>
          cases of with
          | lst xs =>
            simp only [ef] at hw
            cases es2 : ss[j]? with
            | none => simp only [es2] at hw
            | some oo =>
              cases oo with
              | none => simp only [es2] at hw
              | some oc =>
                cases oc with
                | pure d =>
                  simp only [es2] at hw
                  have sd := hw.1.h
                  rw [Bool.and_eq_true] at sd
                  obtain ⟨C, dx, fvs, l, vs, e0, hc, g1, g2, g3, g4, up⟩ := S.fldL es1 sd.2 ef
                  obtain ⟨cl, na⟩ := fo.at sd.1 hc
                  obtain ⟨w, hw2, rd⟩ := S.pure es2
                  refine ⟨.ref a0, e0, a0, C, dx, fvs, .ref l, rfl, .inl g1, cl, na, g2, Or.inl ⟨rfl, vs, SqL.of g3⟩, w, hw2, ?_⟩
                  refine h2 G H l vs [w] xs [d] _ _ g3 g4 (.cons rd .nil) hw.2 fun v d' xs' ds' rd' rds q2 => ?_
                  have kk : Kp H (upd H l (.lst xs')) := Kp.upd g3 trivial
                  exact fin v _ (.d d') _ kk ⟨up xs' ds' rds, rd'.kp kk⟩ ((fc_iff _ _).mp q2)
                | _ => simp only [es2] at hw
          | _ => simp only [ef] at hw
      | _ => simp only [es1] at hw
end
/-! ## an __init__ with an int behind its last name -/
structure InitAtI (z : Int) (K : Frag) (x qual : Str) (st : Stmt) (ps : List Str) (f : Addr) (fd : FuncData) : Prop where
  F : FunD K x qual (defArgs st) (defBody st) (defScope st) [.int z] [] f fd
  b : Binds K fd ps []
  b1 : ∃ ds, Vals [.int z] ds ∧ Binds K fd ps ds
section
variable {K : Frag} {x : Str} {C f : Addr}
variable {m qual : Str} {st : Stmt} {ps : List Str} {oc : Value} {od an : Option Addr} {osl : Array (Option Value)} {kV doc pm cdv ct : Value}
theorem initDI_at {z : Int} {tk : Tok} {T : Addr} {tc : Value} {td : Option Addr} {tn : Nat} {tsl : Array (Option Value)} {n : Nat} (hn : n + 1 = ps.length)
    (h0 : ∀ (T : Addr) (kV doc pm : Value) (an : Option Addr) (cdv ct : Value) (us its : List Value), us.length = n + 1 → its.length = 1 →
      ∃ k, bindArgs (PySem.W.fnOf "__init__" qual (defArgs st) (defBody st) (defScope st) (.ref T) kV doc pm an cdv ct) ⟨us, []⟩ = seqItems? (.ref T) >>= k ∧ k (some its.toArray) = pure (ps.zip (us ++ its.drop 1)))
    (h1 : ∀ (T : Addr) (kV doc pm : Value) (an : Option Addr) (cdv ct : Value) (us its : List Value), us.length = n → its.length = 1 →
      ∃ k, bindArgs (PySem.W.fnOf "__init__" qual (defArgs st) (defBody st) (defScope st) (.ref T) kV doc pm an cdv ct) ⟨us, []⟩ = seqItems? (.ref T) >>= k ∧ k (some its.toArray) = pure (ps.zip (us ++ its.drop 0)))
    (a : PySem.W.nsIn K mainGlobals x = some (some (.ref C))) (mk : PySem.W.makesIn K C = true) (kc : PySem.W.keepIn K (.ref C) = true) (g : PySem.W.findIn K (.ref C) "__init__" = some (some (.ref f))) (i : PySem.W.isFn K (.ref f) = true)
    (l : K.lookup f = some ⟨oc, od, .func (PySem.W.fnOf "__init__" qual (defArgs st) (defBody st) (defScope st) (.ref T) kV doc pm an cdv ct), osl⟩) (c : PySem.W.codeIn K cdv qual = true) (k : PySem.W.keepIn K (.ref f) = true)
    (t : K.lookup T = some ⟨tc, td, .seq #[.int z tk] tn, tsl⟩) : ∃ C f fd, PySem.W.nsIn K mainGlobals x = some (some (.ref C)) ∧ Mk K C f ∧ InitAtI z K "__init__" qual st ps f fd := by
  have F : FunD K "__init__" qual (defArgs st) (defBody st) (defScope st) [.int z] [] f (PySem.W.fnOf "__init__" qual (defArgs st) (defBody st) (defScope st) (.ref T) kV doc pm an cdv ct) :=
    ⟨⟨oc, od, .ref T, kV, doc, pm, an, cdv, ct, osl, rfl, l, c, .inr ⟨by simp, T, _, [.int z tk], tn, rfl, t, rfl, .cons ⟨tk, rfl⟩ .nil⟩, .inl rfl⟩, k⟩
  refine ⟨C, f, _, a, ⟨mk, g, i, kc⟩, F, ?_, ?_⟩
  · obtain ⟨ds, v, b⟩ := F.binds1 (ps := ps) (n + 1) 1 (by simp) (by simpa using hn) h0
    have : ds = [] := by cases v; rfl
    subst this; exact b
  · obtain ⟨ds, v, b⟩ := F.binds1 (ps := ps) n 0 (by simp) (by simpa using hn) h1
    exact ⟨ds, v, b⟩
end
section
variable {X : Cx} {G : Addr → Prop} {B : Hp} {Wz : WZ} {k j : Nat} {e : Expr} {es : List Expr} {ts : ZTDs} {pos p : Pos}
theorem z_makeMD {c : Nat} {C f : Addr} {fd : FuncData} {ps : List Str} {dvs : List V} {dds : List D} {fs : FSM} {x : Str} (Cc : Ctx X G B Wz k) (hc : ClsAt X.K c C) (M : Mk X.K C f)
    (F : FnOk X.prog X.w X.K X.mg X.base (L2.CX X.prog X.w) j f fd ps (toSpM X.K c fs)) (hj : j + 1 ≤ k) (hm : X.mg x = some (.ref C)) (hb : ∃ ds, Vals dvs ds ∧ Binds X.K fd ps ds) (hdd : ∀ G H, DRs X.K G H dvs dds)
    (ha : ZDs X G B (e :: es) ts) (hg : Gl X x := by rfl) (hdb : (x == ("__debug__" : Str)) = false := by decide) (he : starEach (e :: es) X.env = (false, eval e X.env) :: starEach es X.env := by rfl) (hpl : (backTo pos (starEach es X.env)).any (·.1) = false := by rfl) :
    ZE X G B (.Call (.Name x p) (e :: es) [] pos) (zMakeM c fs dds Wz ts) := by
  obtain ⟨ds, hd, hb⟩ := hb
  exact z_makeM Cc hc M F hj hm hb hd hdd ha hg hdb he hpl
end

/-! ## zip of two lists or of two tuples -/
section
variable {X : Cx} {G : Addr → Prop} {B : Hp} {a b : Expr} {ts : ZTDs} {pos p : Pos}
theorem itok_zipT {K : Frag} {H : Hp} {a b : Addr} {xs ys : List V} {ds es : List D} (h : ∀ H1, Kp H H1 → SqT K H1 a xs) (h' : ∀ H1, Kp H H1 → SqT K H1 b ys) (r : DRs K G H xs ds) (r' : DRs K G H ys es) : ItOk K G (RZ.ItzT K a b) (zipD ds es) H := by
  have hl : (zipD ds es).length = min ds.length es.length := by unfold zipD; rw [List.length_zipWith]
  refine ⟨fun H1 k i hi => ?_, fun H1 k i hi _ => ⟨xs, ys, h H1 k, h' H1 k, by rw [r.length, r'.length]; omega⟩⟩
  rw [hl] at hi
  have i1 : i < xs.length := by rw [r.length]; omega
  have i2 : i < ys.length := by rw [r'.length]; omega
  refine ⟨⟨xs, ys, xs[i], ys[i], h H1 k, h' H1 k, List.getElem?_eq_getElem i1, List.getElem?_eq_getElem i2⟩, fun v H2 y => ?_⟩
  obtain ⟨T, x, y, rfl, n, rfl, hx, hy⟩ := y
  obtain ⟨d, e1, rd⟩ := r.get' (hx xs (h H1 k))
  obtain ⟨d', e2, rd'⟩ := r'.get' (hy ys (h' H1 k))
  obtain ⟨sm, rt⟩ := tupH n (rd.kp k) (rd'.kp k)
  exact ⟨sm, _, by unfold zipD; rw [List.getElem?_zipWith, e1, e2], rt⟩
def ziZipX (ts : ZTDs) : ZTI := fun ss Q => ts ss fun ds s => match ds with
  | [.lst _ xs, .lst _ ys] => Q (zipD xs ys) s
  | [.tup xs, .tup ys] => Q (zipD xs ys) s
  | _ => False
theorem zi_zipX {elts : List Expr} {kk : Nat} {tpos : Pos} (hm : X.mg "zip" = none) (ha : ZDs X G B [a, b] ts) (hg : Gl X "zip" := by rfl) (hs : starEach [a, b] X.env = (false, eval a X.env) :: starEach [b] X.env := by rfl) (hpl : (backTo pos (starEach [b] X.env)).any (·.1) = false := by rfl) :
    ZIt X G B (.Tuple elts kk tpos) (.Call (.Name "zip" p) [a, b] [] pos) (ziZipX ts) := by
  obtain ⟨te, pa, r⟩ := ha
  refine ⟨_, RZ.pi_zipA hg hm pa hs hpl, fun σ H ss Q R S hw fin => ?_⟩
  refine r σ H ss _ _ S hw fun vs H1 ds s1 k1 S1 rs q => ?_
  match ds, vs, rs, q with
  | [.lst m xs, .lst m' ys], [v, v'], .cons r1 (.cons r2 .nil), q =>
    obtain ⟨a, ws, rfl, h1, h2⟩ := r1.lq
    obtain ⟨b, us, rfl, g1, g2⟩ := r2.lq
    exact ⟨a, b, ws, us, rfl, .inl ⟨h1 H1 (Kp.refl _), g1 H1 (Kp.refl _), fin _ H1 _ s1 k1 S1 (itok_zip h1 g1 h2 g2) q⟩⟩
  | [.tup xs, .tup ys], [v, v'], .cons r1 (.cons r2 .nil), q =>
    cases r1 with
    | @tup a ws _ h1 h2 =>
      cases r2 with
      | @tup b us _ g1 g2 => exact ⟨a, b, ws, us, rfl, .inr ⟨h1, g1, fin _ H1 _ s1 k1 S1 (itok_zipT (fun H1 k => sqT_kp k h1) (fun H1 k => sqT_kp k g1) h2 g2) q⟩⟩
end

theorem bT {p : Prop} [Decidable p] (h : decide p = true) : p := of_decide_eq_true h
theorem bF {p : Prop} [Decidable p] (h : decide p = false) : ¬ p := of_decide_eq_false h
theorem nbT {p : Prop} [Decidable p] (h : (!decide p) = true) : ¬ p := fun q => by rw [decide_eq_true q] at h; cases h
theorem nbF {p : Prop} [Decidable p] (h : (!decide p) = false) : p := by
  by_cases q : p
  · exact q
  · rw [decide_eq_false q] at h; cases h
theorem finT {Q : RV → Prop} {b : Bool} (q : Q (.d (.bl true))) (h : b = true) : Q (.d (.bl b)) := by subst h; exact q
theorem one_len (a : Nat) : (⟨#[a]⟩ : Str).length = 1 := rfl
theorem app11_len (a b : Nat) : ((⟨#[a]⟩ : Str) ++ ⟨#[b]⟩).length = 2 := rfl
theorem two_len (a b : Nat) : (⟨#[a, b]⟩ : Str).length = 2 := rfl
theorem eqStr (s : Str) : D.eq (.str s) (.str s) = true := decide_eq_true rfl
theorem eqInt (s : Int) : D.eq (.int s) (.int s) = true := decide_eq_true rfl
theorem neStr (s : Str) : (!D.eq (.str s) (.str s)) = false := congrArg not (eqStr s)
theorem neInt (s : Int) : (!D.eq (.int s) (.int s)) = false := congrArg not (eqInt s)
local macro_rules | `(tactic| walk_at "zside") => `(tactic| first | omega | decide | (exact (rfl : (_ : Bool) = true)) | (exact (rfl : (_ : Bool) = false)) | (exact (rfl : (_ : Option _) = some _)) | (simp [sizeLine_eq]; done) | (simp only [List.length_map, sizeLine_eq]; omega) | assumption | (exact mulB (by decide) (by decide)) | (exact mulR (by decide)) | (simp only [app11_len, one_len, two_len, sizeLine_eq]; omega) | (exact mulB (by omega) (by omega)) | (exact divS (by decide) (by decide)) | exact ⟨by decide, by decide +kernel⟩ | (refine ⟨?_, ?_, ?_⟩ <;> first | omega | decide))
local macro_rules | `(tactic| walk_at "z1") => `(tactic| ((conv => whnf); first
  | ((with_reducible refine And.intro (Sd.mk ?zs) ?_); (case zs => walk_at "zside"))
  | (with_reducible refine Br.T ?_)
  | (with_reducible refine Br.F ?_)
  | (with_reducible refine Br.nT ?_)
  | (with_reducible refine Br.nF ?_)
  | ((with_reducible refine Br.lT ?hb ?_); (case hb => exact (rfl : (_ : Bool) = true)))
  | ((with_reducible refine Br.lF ?hb ?_); (case hb => exact (rfl : (_ : Bool) = false)))
  | ((with_reducible refine Br.lT ?hb ?_); (case hb => with_reducible first | assumption | exact eqStr _ | exact eqInt _))
  | ((with_reducible refine Br.lF ?hb ?_); (case hb => with_reducible first | assumption | exact neStr _ | exact neInt _))
  | ((with_reducible refine' Exists.intro _ (And.intro ?hx ?_)); (case hx => ((with_reducible show atI _ _ = some _); exact rfl)))))
local macro_rules | `(tactic| walk_at "zz") => `(tactic| ((repeat (walk_at "z1")); (try (conv => whnf))))
theorem cutS_len (s : Str) (lo hi : Option Int) : (cutS s lo hi).length ≤ s.length := by
  unfold cutS
  show ((List.drop _ _).take _).toArray.size ≤ s.cps.size
  rw [List.size_toArray, List.length_take, List.length_drop, Array.length_toList]; omega
theorem app_len (a b : Str) : (a ++ b).length = a.length + b.length := by
  show (a.cps ++ b.cps).size = _
  rw [Array.size_append]; rfl
theorem at_mod {α : Type} (xs : List α) (r n : Int) (hn : n = xs.length) (h : 0 < xs.length) : ∃ x, x ∈ xs ∧ atI xs (r % n) = some x := by
  subst hn
  obtain ⟨q, e⟩ := atI_in (xs := xs) (Int.emod_nonneg r (by omega)) (Int.emod_lt_of_pos r (by omega))
  exact ⟨_, List.getElem_mem q, e⟩
/-! ### calls -/
def letN (p : Nat) : Nat := ([97, 98, 99, 100, 110] : List Nat).getD p 0
def bidS (t p : Nat) : Str := ⟨#[49 + t, letN p]⟩
def strnD (p : Nat) : D := match p with
  | 0 => .int 0 | 1 => .int 1 | 2 => .int 2 | 3 => .int 3 | _ => .non
def bidD (t p : Nat) : D := .tup [.int ((t : Int) + 1), strnD p]
def isW (s : Str) : Prop := s = "pass" ∨ s = "double" ∨ s = "again"
def isB (s : Str) (t p : Nat) : Prop := t < 8 ∧ p < 5 ∧ s = bidS t p
theorem bidS_len (t p : Nat) : (bidS t p).length = 2 := rfl
theorem len2 {s : Str} (h : s.length = 2) : ∃ a b, s = ⟨#[a, b]⟩ := by
  obtain ⟨⟨l⟩⟩ := s
  match l, h with
  | [a, b], _ => exact ⟨a, b, rfl⟩
theorem bidS_inj {t p t' p' : Nat} (ht : p < 5) (hp : p' < 5) (h : bidS t p = bidS t' p') : t = t' ∧ p = p' := by
  unfold bidS at h
  have h1 : (#[49 + t, letN p] : Array Nat) = #[49 + t', letN p'] := congrArg Str.cps h
  have h2 : [49 + t, letN p] = [49 + t', letN p'] := congrArg Array.toList h1
  simp only [List.cons.injEq, and_true] at h2
  refine ⟨by omega, ?_⟩
  have h3 := h2.2
  have key : ∀ p < 5, ∀ p' < 5, letN p = letN p' → p = p' := by decide
  exact key p ht p' hp h3
theorem fig_of {a : Nat} (h : a ∈ ("12345678" : Str).cps.toList) : ∃ t, t < 8 ∧ a = 49 + t := by
  have e : ("12345678" : Str).cps.toList = [49, 50, 51, 52, 53, 54, 55, 56] := by decide +kernel
  rw [e] at h
  simp only [List.mem_cons, List.not_mem_nil, or_false] at h
  exact ⟨a - 49, by omega, by omega⟩
theorem let_of {a : Nat} (h : a ∈ ("abcdn" : Str).cps.toList) : ∃ p, p < 5 ∧ a = letN p := by
  have e : ("abcdn" : Str).cps.toList = [97, 98, 99, 100, 110] := by decide +kernel
  rw [e] at h
  simp only [List.mem_cons, List.not_mem_nil, or_false] at h
  rcases h with rfl | rfl | rfl | rfl | rfl
  · exact ⟨0, by decide, rfl⟩
  · exact ⟨1, by decide, rfl⟩
  · exact ⟨2, by decide, rfl⟩
  · exact ⟨3, by decide, rfl⟩
  · exact ⟨4, by decide, rfl⟩
theorem fig_in {t : Nat} (h : t < 8) : 49 + t ∈ ("12345678" : Str).cps.toList := by
  have e : ("12345678" : Str).cps.toList = [49, 50, 51, 52, 53, 54, 55, 56] := by decide +kernel
  rw [e]
  simp only [List.mem_cons, List.not_mem_nil, or_false]
  omega
theorem let_in {p : Nat} (h : p < 5) : letN p ∈ ("abcdn" : Str).cps.toList := by
  match p, h with
  | 0, _ => decide +kernel
  | 1, _ => decide +kernel
  | 2, _ => decide +kernel
  | 3, _ => decide +kernel
  | 4, _ => decide +kernel
theorem fig_ix {t : Nat} (h : t < 8) : ∃ rest, Builtin.Str.occurrences "12345678" ⟨#[49 + t]⟩ 0 ("12345678" : Str).length 1 = t :: rest := by
  match t, h with
  | 0, _ => exact ⟨[], by decide +kernel⟩
  | 1, _ => exact ⟨[], by decide +kernel⟩
  | 2, _ => exact ⟨[], by decide +kernel⟩
  | 3, _ => exact ⟨[], by decide +kernel⟩
  | 4, _ => exact ⟨[], by decide +kernel⟩
  | 5, _ => exact ⟨[], by decide +kernel⟩
  | 6, _ => exact ⟨[], by decide +kernel⟩
  | 7, _ => exact ⟨[], by decide +kernel⟩
theorem let_ix {p : Nat} (h : p < 5) : ∃ rest, Builtin.Str.occurrences "abcdn" ⟨#[letN p]⟩ 0 ("abcdn" : Str).length 1 = p :: rest := by
  match p, h with
  | 0, _ => exact ⟨[], by decide +kernel⟩
  | 1, _ => exact ⟨[], by decide +kernel⟩
  | 2, _ => exact ⟨[], by decide +kernel⟩
  | 3, _ => exact ⟨[], by decide +kernel⟩
  | 4, _ => exact ⟨[], by decide +kernel⟩
theorem any_words (s : Str) : ([D.str "pass", D.str "double", D.str "again"].any fun y => D.eq y (D.str s)) = (decide (("pass" : Str) = s) || (decide (("double" : Str) = s) || (decide (("again" : Str) = s) || false))) := rfl
theorem isW_of {s : Str} (h : ([D.str "pass", D.str "double", D.str "again"].any fun y => D.eq y (D.str s)) = true) : isW s := by
  rw [any_words] at h
  by_cases e1 : ("pass" : Str) = s
  · exact .inl e1.symm
  by_cases e2 : ("double" : Str) = s
  · exact .inr (.inl e2.symm)
  by_cases e3 : ("again" : Str) = s
  · exact .inr (.inr e3.symm)
  simp [e1, e2, e3] at h
theorem of_isW {s : Str} (h : isW s) : ([D.str "pass", D.str "double", D.str "again"].any fun y => D.eq y (D.str s)) = true := by
  rw [any_words]
  rcases h with rfl | rfl | rfl <;> decide +kernel
theorem isW_len {s : Str} (h : isW s) : 4 ≤ s.length ∧ s.length ≤ 6 := by
  rcases h with rfl | rfl | rfl <;> decide +kernel
def sp_read_call : FS := fun ds Q E => ∃ s : Str, ds = [.str s] ∧ s.length ≤ 1000 ∧ (isW s → Q (.d (.str s))) ∧ (∀ t p, isB s t p → Q (.d (bidD t p))) ∧ (¬ isW s → (∀ t p, ¬ isB s t p) → E c_NoCall [] [])
def r_read_call (Wz : WZ) : ZTS :=
  (zSeq (zIfS (zNot (zT (zIsi .str (zVar 0)))) (zRaise c_NoCall Wz) zNext)
  (zSeq (zIfS (zT (zBin (zInC false) (zVar 0) (zC (.tup ((["pass", "double", "again"] : List Str).map D.str))))) (zRet (zVar 0)) zNext)
  (zSeq (zIfS (zOr (zT (zBin zNeC (zCB zLenC (zaCons (zVar 0) zaNil)) (zC (.int 2)))) (zOr (zT (zBin (zInC true) (zBin zIxC (zVar 0) (zC (.int 0))) (zC (.str "12345678")))) (zT (zBin (zInC true) (zBin zIxC (zVar 0) (zC (.int 1))) (zC (.str "abcdn")))))) (zRaise c_NoCall Wz) zNext)
  (zSeq (zSet 1 (zMq 1 zSIndexC (zC (.str "abcdn")) (zaCons (zBin zIxC (zVar 0) (zC (.int 1))) zaNil)))
  (zSeq (zIfS (zT (zBin zEqC (zVar 1) (zC (.int 4)))) (zSet 1 (zC .non)) zNext)
  (zRet (zTup (zdCons (zBin zAddC (zMq 1 zSIndexC (zC (.str "12345678")) (zaCons (zBin zIxC (zVar 0) (zC (.int 0))) zaNil)) (zC (.int 1))) (zdCons (zVar 1) zdNil)))))))))
theorem read_read_call (ds : List D) (Q : RV → Prop) (E : EZ) (hs : sp_read_call ds Q E) : r_read_call (fun cls ns es _ => E cls ns es) ⟨fun _ => Q (.d .non), retK Q, fun _ => False, fun _ => False⟩ (args ds 2) := by
  obtain ⟨s, rfl, hl, q1, q2, q3⟩ := hs
  have sl := sizeLine_eq
  walk_at "zz"
  refine And.intro (Sd.mk ⟨rfl, rfl⟩) ?_
  conv => whnf
  refine ⟨fun h => ?_, fun h => ?_⟩
  · walk_at "zz"
    exact q1 (isW_of h)
  have nw : ¬ isW s := fun w => by have := (of_isW w).symm.trans h; cases this
  walk_at "zz"
  refine ⟨fun h2 => ?_, fun h2 => ?_⟩
  · walk_at "zz"
    refine q3 nw fun t p ⟨_, _, e⟩ => ?_
    subst e
    exact nbT (p := ((2 : Int) = 2)) h2 rfl
  have hs2 : s.length = 2 := by
    have h3 : (s.length : Int) = 2 := nbF h2
    omega
  obtain ⟨a, b, rfl⟩ := len2 hs2
  walk_at "zz"
  refine ⟨a, rfl, ?_⟩
  walk_at "zz"
  refine ⟨fun h3 => ?_, fun h3 => ?_⟩
  · walk_at "zz"
    refine q3 nw fun t p ⟨h1, h2, e⟩ => ?_
    have e2 : [a, b] = [49 + t, letN p] := congrArg (fun z => (Str.cps z).toList) e
    simp only [List.cons.injEq, and_true] at e2
    have := fig_in h1
    rw [← e2.1] at this
    simp [this] at h3
  have ha : a ∈ ("12345678" : Str).cps.toList := by simpa using h3
  obtain ⟨t, ht, rfl⟩ := fig_of ha
  walk_at "zz"
  refine ⟨b, rfl, ?_⟩
  walk_at "zz"
  refine ⟨fun h4 => ?_, fun h4 => ?_⟩
  · walk_at "zz"
    refine q3 nw fun t' p ⟨h1, h2, e⟩ => ?_
    have e2 : [49 + t, b] = [49 + t', letN p] := congrArg (fun z => (Str.cps z).toList) e
    simp only [List.cons.injEq, and_true] at e2
    have := let_in h2
    rw [← e2.2] at this
    simp [this] at h4
  have hb : b ∈ ("abcdn" : Str).cps.toList := by simpa using h4
  obtain ⟨p, hp, rfl⟩ := let_of hb
  have qq := q2 t p ⟨ht, hp, rfl⟩
  obtain ⟨r1, e1⟩ := fig_ix ht
  obtain ⟨r2, e2⟩ := let_ix hp
  walk_at "zz"
  refine ⟨p, r2, e2, ?_⟩
  walk_at "zz"
  refine ⟨fun h5 => ?_, fun h5 => ?_⟩
  · have h6 : p = 4 := by have : (p : Int) = 4 := bT h5; omega
    subst h6
    walk_at "zz"
    refine ⟨t, r1, e1, ?_⟩
    walk_at "zz"
    exact qq
  · have h6 : p ≠ 4 := by have : (p : Int) ≠ 4 := bF h5; omega
    walk_at "zz"
    refine ⟨t, r1, e1, ?_⟩
    walk_at "zz"
    have h7 : p = 0 ∨ p = 1 ∨ p = 2 ∨ p = 3 := by omega
    rcases h7 with rfl | rfl | rfl | rfl <;> exact qq
def sp_place_of : FS := fun ds Q _ => ∃ p : Nat, ds = [strnD p] ∧ p < 5 ∧ Q (.d (.int (p : Nat)))
def r_place_of (Wz : WZ) : ZTS :=
  (zSeq (zIfS (zT (zBin zIsC (zVar 0) (zC .non))) (zRet (zC (.int 4))) zNext)
  (zRet (zVar 0)))
theorem read_place_of (ds : List D) (Q : RV → Prop) (E : EZ) (hs : sp_place_of ds Q E) : r_place_of (fun cls ns es _ => E cls ns es) ⟨fun _ => Q (.d .non), retK Q, fun _ => False, fun _ => False⟩ (args ds 1) := by
  obtain ⟨p, rfl, hp, q⟩ := hs
  match p, hp with
  | 0, _ => walk_at "zz"; exact q
  | 1, _ => walk_at "zz"; exact q
  | 2, _ => walk_at "zz"; exact q
  | 3, _ => walk_at "zz"; exact q
  | 4, _ => walk_at "zz"; exact q
def sp_law_cell : FS := fun ds Q _ => ∃ (m : Nat) (ns : List Int) (k : Int), ds = [.lst m (ns.map .int), .int k] ∧ (ns.length : Int) ≤ 63 ∧ 0 ≤ k ∧ k < 2 ^ 20 ∧ ∀ r : Int, 0 ≤ r → r < 999999937 → Q (.d (.int r))
def r_law_cell (Wz : WZ) : ZTS :=
  (zSeq (zSet 2 (zBin zAddC (zBin zMulC (zBin zMulC (zVar 1) (zVar 1)) (zC (.int 7919))) (zC (.int 17))))
  (zSeq (zIfS (zT (zBin zGtX (zCB zLenC (zaCons (zVar 0) zaNil)) (zC (.int 0)))) (zSet 2 (zBin zAddC (zBin zModC (zBin zIxC (zVar 0) (zBin zModC (zVar 1) (zCB zLenC (zaCons (zVar 0) zaNil)))) (zBin zPowC (zC (.int 10)) (zC (.int 30)))) (zBin zMulC (zBin zFdivC (zVar 1) (zCB zLenC (zaCons (zVar 0) zaNil))) (zC (.int 104729))))) zNext)
  (zRet (zBin zModC (zBin zMulC (zBin zModC (zBin zAddC (zBin zMulC (zVar 2) (zC (.int 48271))) (zBin zMulC (zVar 1) (zC (.int 69621)))) (zC (.int 2147483647))) (zBin zAddC (zBin zModC (zVar 2) (zC (.int 65521))) (zC (.int 3)))) (zC (.int 999999937))))))
theorem read_law_cell (ds : List D) (Q : RV → Prop) (E : EZ) (hs : sp_law_cell ds Q E) : r_law_cell (fun cls ns es _ => E cls ns es) ⟨fun _ => Q (.d .non), retK Q, fun _ => False, fun _ => False⟩ (args ds 3) := by
  obtain ⟨m, ns, k, rfl, hlen, k0, k1, q⟩ := hs
  have rest : ∀ (n : Int) (x0 : Option O), 0 ≤ n → n < 2 ^ 200 → zRet (zBin zModC (zBin zMulC (zBin zModC (zBin zAddC (zBin zMulC (zVar 2) (zC (.int 48271))) (zBin zMulC (zVar 1) (zC (.int 69621)))) (zC (.int 2147483647))) (zBin zAddC (zBin zModC (zVar 2) (zC (.int 65521))) (zC (.int 3)))) (zC (.int 999999937))) ⟨fun _ => Q (.d .non), retK Q, fun _ => False, fun _ => False⟩ [x0, some (.pure (.int k)), some (.pure (.int n))] := by
    intro n x0 n0 n1
    conv => whnf
    refine And.intro (Sd.mk (mulW 200 20 n0 n1 (by decide) (by decide))) ?_
    conv => whnf
    refine And.intro (Sd.mk (mulW 20 20 k0 k1 (by decide) (by decide))) ?_
    walk_at "zz"
    have h1 : 0 ≤ (n * 48271 + k * 69621) % 2147483647 ∧ (n * 48271 + k * 69621) % 2147483647 < 2 ^ 40 := ⟨Int.emod_nonneg _ (by decide), Int.lt_trans (Int.emod_lt_of_pos _ (by decide)) (by decide)⟩
    have h2 : 0 ≤ n % 65521 + 3 ∧ n % 65521 + 3 < 2 ^ 40 := by
      have := Int.emod_nonneg n (by decide : (65521 : Int) ≠ 0)
      have := Int.emod_lt_of_pos n (by decide : (0 : Int) < 65521)
      exact ⟨by omega, by omega⟩
    first | refine And.intro (Sd.mk (mulW 40 40 h1.1 h1.2 h2.1 h2.2)) ?_ | skip
    walk_at "zz"
    exact q _ (Int.emod_nonneg _ (by decide)) (Int.emod_lt_of_pos _ (by decide))
  have m1 : CMulW k k := mulW 20 20 k0 k1 k0 k1
  have m2 := mul_lt 20 20 k0 k1 k0 k1
  conv => whnf
  refine And.intro (Sd.mk m1) ?_
  conv => whnf
  refine And.intro (Sd.mk (mulW 40 20 m2.1 m2.2 (by decide) (by decide))) ?_
  walk_at "zz"
  refine ⟨fun h => ?_, fun h => ?_⟩
  · have hl : 0 < (ns.map D.int).length := Int.ofNat_lt.mp (of_decide_eq_true h)
    have hl3 : (0 : Int) < ((ns.map D.int).length : Int) := Int.ofNat_lt.mpr hl
    walk_at "zz"
    obtain ⟨v, hv⟩ := at_int (ns := ns) (i := k % ((ns.map D.int).length : Int)) (Int.emod_nonneg _ (by omega)) (by have := Int.emod_lt_of_pos k hl3; rw [List.length_map] at this ⊢; exact this)
    refine ⟨_, hv, ?_⟩
    walk_at "zz"
    have hd : CDivW k ((ns.map D.int).length : Int) := divW hl3 (by rw [List.length_map] at hl3 ⊢; exact Int.lt_of_le_of_lt hlen (Int.lt_of_lt_of_le (by decide : (63 : Int) < 2 ^ 20) (pow_le2 (by decide))))
    refine And.intro (Sd.mk hd) ?_
    conv => whnf
    have e1 := Int.ediv_nonneg k0 (Int.le_of_lt hl3)
    have e2 := Int.ediv_le_self ((ns.map D.int).length : Int) k0
    have e3 : k / ((ns.map D.int).length : Int) < 2 ^ 20 := Int.lt_of_le_of_lt e2 k1
    refine And.intro (Sd.mk (mulW 20 20 e1 e3 (by decide) (by decide))) ?_
    have a1 : 0 ≤ v % 10 ^ 30 ∧ v % 10 ^ 30 < 2 ^ 100 := ⟨Int.emod_nonneg _ (by decide), Int.lt_trans (Int.emod_lt_of_pos _ (by decide)) (by decide)⟩
    have b := mul_lt 20 20 e1 e3 (by decide : (0 : Int) ≤ 104729) (by decide)
    refine rest _ _ (Int.add_nonneg a1.1 b.1) (Int.lt_of_lt_of_le (Int.add_lt_add a1.2 b.2) (by decide))
  · have b := mul_lt 40 20 m2.1 m2.2 (by decide : (0 : Int) ≤ 7919) (by decide)
    refine rest _ _ (Int.add_nonneg b.1 (by decide)) (Int.lt_of_lt_of_le (Int.add_lt_add b.2 (by decide : (17 : Int) < 2 ^ 60)) (by decide))
/-! ### callings, in plain Lean -/
inductive Cl where
  | pas | dbl | agn | bid (t p : Nat)
deriving DecidableEq
def Cl.s : Cl → Str
  | .pas => "pass" | .dbl => "double" | .agn => "again" | .bid t p => bidS t p
def Cl.d : Cl → D
  | .pas => .str "pass" | .dbl => .str "double" | .agn => .str "again" | .bid t p => bidD t p
def Cl.ok : Cl → Prop
  | .bid t p => t < 8 ∧ p < 5
  | _ => True
def Cl.isP : Cl → Bool
  | .pas => true
  | _ => false
def csS (cs : List Cl) : List D := cs.map fun c => .str c.s
def csD (cs : List Cl) : List D := cs.map Cl.d
theorem csS_len (cs : List Cl) : (csS cs).length = cs.length := List.length_map ..
theorem csD_len (cs : List Cl) : (csD cs).length = cs.length := List.length_map ..
theorem csS_snoc (cs : List Cl) (c : Cl) : csS cs ++ [D.str c.s] = csS (cs ++ [c]) := by unfold csS; rw [List.map_append]; rfl
theorem csD_snoc (cs : List Cl) (c : Cl) : csD cs ++ [c.d] = csD (cs ++ [c]) := by unfold csD; rw [List.map_append]; rfl
/-- passes ahead -/
def tailL : List Cl → Nat
  | [] => 0
  | c :: l => match c.isP with
    | true => tailL l + 1
    | false => 0
def tailC (cs : List Cl) : Nat := tailL cs.reverse
theorem tailL_le : ∀ l : List Cl, tailL l ≤ l.length
  | [] => Nat.le_refl _
  | c :: l => by
    unfold tailL
    cases c.isP with
    | true => have := tailL_le l; simp; omega
    | false => simp
theorem tailC_le (cs : List Cl) : tailC cs ≤ cs.length := by
  have := tailL_le cs.reverse
  rwa [List.length_reverse] at this
def overC (n : Nat) (cs : List Cl) : Bool := if tailC cs = cs.length then decide (cs.length = n) else decide (tailC cs + 1 = n)
/-- the last bid: its number, its tricks and strain; its times -/
abbrev LastT := Option (Nat × Nat × Nat) × Nat
def stepL (a : LastT) (k : Nat) : Cl → LastT
  | .pas => a
  | .bid t p => (some (k, t, p), 1)
  | _ => (a.1, 2 * a.2)
def lastG : List Cl → Nat → LastT → LastT
  | [], _, a => a
  | c :: l, k, a => lastG l (k + 1) (stepL a k c)
def lastC (cs : List Cl) : LastT := lastG cs 0 (none, 1)
theorem lastG_snoc (c : Cl) : ∀ (l : List Cl) (k : Nat) (a : LastT), lastG (l ++ [c]) k a = stepL (lastG l k a) (k + l.length) c
  | [], k, a => rfl
  | x :: l, k, a => by
    show lastG (l ++ [c]) (k + 1) (stepL a k x) = stepL (lastG l (k + 1) (stepL a k x)) (k + (l.length + 1)) c
    rw [lastG_snoc c l, show k + 1 + l.length = k + (l.length + 1) by omega]
theorem lastC_snoc (l : List Cl) (c : Cl) : lastC (l ++ [c]) = stepL (lastC l) l.length c := by
  have := lastG_snoc c l 0 (none, 1)
  rwa [Nat.zero_add] at this
/-- all calls are calls, a double stands behind a bid -/
structure Val (cs : List Cl) : Prop where
  ok : ∀ c ∈ cs, c.ok
  db : ∀ pre c post, cs = pre ++ c :: post → c = .dbl ∨ c = .agn → (lastC pre).1 ≠ none
theorem Val.nil : Val [] := ⟨fun c h => by simp at h, fun pre c post h => by simp at h⟩
theorem last_at {cs : List Cl} {k t p : Nat} (h : (lastC cs).1 = some (k, t, p)) : cs[k]? = some (.bid t p) := by
  have gen : ∀ (n : Nat) (cs : List Cl), cs.length = n → (lastC cs).1 = some (k, t, p) → cs[k]? = some (.bid t p) := by
    intro n
    induction n with
    | zero =>
      intro cs hl h
      have : cs = [] := List.length_eq_zero_iff.mp hl
      subst this; cases h
    | succ n ih =>
      intro cs hl h
      obtain ⟨l, c, rfl⟩ : ∃ l c, cs = l ++ [c] := by
        have ne : cs ≠ [] := fun e => by subst e; cases hl
        exact ⟨cs.dropLast, cs.getLast ne, (List.dropLast_concat_getLast ne).symm⟩
      have hl2 : l.length = n := by simpa using hl
      rw [lastC_snoc] at h
      have old : (lastC l).1 = some (k, t, p) → (l ++ [c])[k]? = some (.bid t p) := fun q => by
        have := ih l hl2 q
        have lt : k < l.length := (List.getElem?_eq_some_iff.mp this).1
        rw [List.getElem?_append_left lt]; exact this
      cases c with
      | pas => exact old h
      | dbl => exact old h
      | agn => exact old h
      | bid t' p' =>
        cases h
        rw [List.getElem?_append_right (Nat.le_refl _)]; simp
  exact gen _ cs rfl h
theorem last_ok {cs : List Cl} (V : Val cs) {k t p : Nat} (h : (lastC cs).1 = some (k, t, p)) : k < cs.length ∧ t < 8 ∧ p < 5 := by
  have e := last_at h
  exact ⟨(List.getElem?_eq_some_iff.mp e).1, V.ok _ (List.mem_of_getElem? e)⟩
theorem lastG_tm : ∀ (l : List Cl) (k : Nat) (a : LastT) (m : Nat), a.2 ≤ 2 ^ m → (lastG l k a).2 ≤ 2 ^ (m + l.length)
  | [], k, a, m, h => h
  | c :: l, k, a, m, h => by
    have := lastG_tm l (k + 1) (stepL a k c) (m + 1) (by
      have e : (2 : Nat) ^ (m + 1) = 2 * 2 ^ m := by rw [Nat.pow_succ, Nat.mul_comm]
      have := Nat.one_le_two_pow (n := m)
      cases c with
      | pas => show a.2 ≤ _; omega
      | bid t p => show 1 ≤ _; omega
      | dbl => show 2 * a.2 ≤ _; omega
      | agn => show 2 * a.2 ≤ _; omega)
    rw [show m + (c :: l).length = m + 1 + l.length by simp; omega]
    exact this
theorem last_tm (cs : List Cl) : (lastC cs).2 ≤ 2 ^ cs.length := by
  have := lastG_tm cs 0 (none, 1) 0 (Nat.le_refl _)
  rwa [Nat.zero_add] at this
def ownC (n d : Nat) : Bool := decide (d % n = 0) || (decide (n = 4) && decide (d % 2 = 0))
def rkC (t p : Nat) : Nat := 5 * t + p
/-- whether a call stands -/
def standsC (n : Nat) (cs : List Cl) (c : Cl) : Bool := match overC n cs with
  | true => false
  | false => match c with
    | .pas => true
    | .bid t p => match (lastC cs).1 with
      | none => true
      | some (_, t', p') => decide (rkC t' p' < rkC t p)
    | .dbl => match (lastC cs).1 with
      | none => false
      | some (k, _, _) => !ownC n (cs.length - k) && decide ((lastC cs).2 = 1)
    | .agn => match (lastC cs).1 with
      | none => false
      | some (k, _, _) => ownC n (cs.length - k) && decide ((lastC cs).2 = 2)
theorem st_over {n : Nat} {cs : List Cl} {c : Cl} (o : overC n cs = true) : standsC n cs c = false := by unfold standsC; rw [o]
theorem st_pas {n : Nat} {cs : List Cl} (o : overC n cs = false) : standsC n cs .pas = true := by unfold standsC; rw [o]
theorem st_bid0 {n t p m : Nat} {cs : List Cl} (o : overC n cs = false) (l : lastC cs = (none, m)) : standsC n cs (.bid t p) = true := by unfold standsC; rw [o, l]
theorem st_bid {n t p k t' p' m : Nat} {cs : List Cl} (o : overC n cs = false) (l : lastC cs = (some (k, t', p'), m)) : standsC n cs (.bid t p) = decide (rkC t' p' < rkC t p) := by unfold standsC; rw [o, l]
theorem st_dbl0 {n m : Nat} {cs : List Cl} (o : overC n cs = false) (l : lastC cs = (none, m)) : standsC n cs .dbl = false := by unfold standsC; rw [o, l]
theorem st_dbl {n k t' p' m : Nat} {cs : List Cl} (o : overC n cs = false) (l : lastC cs = (some (k, t', p'), m)) : standsC n cs .dbl = (!ownC n (cs.length - k) && decide (m = 1)) := by unfold standsC; rw [o, l]
theorem st_agn0 {n m : Nat} {cs : List Cl} (o : overC n cs = false) (l : lastC cs = (none, m)) : standsC n cs .agn = false := by unfold standsC; rw [o, l]
theorem st_agn {n k t' p' m : Nat} {cs : List Cl} (o : overC n cs = false) (l : lastC cs = (some (k, t', p'), m)) : standsC n cs .agn = (ownC n (cs.length - k) && decide (m = 2)) := by unfold standsC; rw [o, l]
theorem Val.snoc {n : Nat} {cs : List Cl} {c : Cl} (V : Val cs) (hc : c.ok) (h : standsC n cs c = true) : Val (cs ++ [c]) := by
  refine ⟨fun x hx => ?_, fun pre y post e hy => ?_⟩
  · rcases List.mem_append.mp hx with hx | hx
    · exact V.ok x hx
    · rw [List.mem_singleton.mp hx]; exact hc
  · by_cases q : post = []
    · subst q
      have e1 : pre = cs ∧ y = c := by
        have h1 := congrArg List.dropLast e
        have h2 := congrArg List.getLast? e
        simp at h1 h2
        exact ⟨h1.symm, h2.symm⟩
      obtain ⟨rfl, rfl⟩ := e1
      intro z
      unfold standsC at h
      rcases hy with rfl | rfl
      · cases e2 : overC n pre <;> rw [e2] at h
        · simp only [z] at h; cases h
        · cases h
      · cases e2 : overC n pre <;> rw [e2] at h
        · simp only [z] at h; cases h
        · cases h
    · obtain ⟨l, x, rfl⟩ : ∃ l x, post = l ++ [x] := ⟨post.dropLast, post.getLast q, (List.dropLast_concat_getLast q).symm⟩
      have e2 : cs ++ [c] = (pre ++ y :: l) ++ [x] := by rw [e, List.append_assoc]; rfl
      exact V.db pre y l (List.append_inj' e2 rfl).1 hy
/-! lists with their numbers -/
def enF {α : Type} (f : α → D) : Nat → List α → List D
  | _, [] => []
  | i, x :: xs => .tup [.int (i : Nat), f x] :: enF f (i + 1) xs
theorem enD_map {α : Type} (f : α → D) (xs : List α) : enD (xs.map f) = enF f 0 xs := by
  have gen : ∀ (xs : List α) (i : Nat), (List.range' i xs.length).zipWith (fun (i : Nat) x => D.tup [.int (i : Int), x]) (xs.map f) = enF f i xs := by
    intro xs
    induction xs with
    | nil => exact fun _ => rfl
    | cons x xs ih =>
      intro i
      rw [List.length_cons, List.range'_succ, List.map_cons, List.zipWith_cons_cons, ih]; rfl
  unfold enD
  rw [List.length_map, List.range_eq_range']
  exact gen xs 0
theorem at_nat {α : Type} {xs : List α} {i : Int} {k : Nat} {x : α} (e : i = (k : Nat)) (h : xs[k]? = some x) : atI xs i = some x := by
  have lt : k < xs.length := (List.getElem?_eq_some_iff.mp h).1
  subst e
  obtain ⟨q, e2⟩ := atI_in (xs := xs) (i := ((k : Nat) : Int)) (by omega) (by omega)
  rw [e2]
  have := (List.getElem?_eq_some_iff.mp h).2
  rw [← this]; rfl
theorem at_csS {cs : List Cl} {i : Int} {k : Nat} {c : Cl} (e : i = (k : Nat)) (h : cs[k]? = some c) : atI (csS cs) i = some (.str c.s) := at_nat e (by unfold csS; rw [List.getElem?_map, h]; rfl)
theorem is_pass : ∀ c : Cl, decide (c.s = "pass") = c.isP
  | .pas => by decide +kernel
  | .dbl => by decide +kernel
  | .agn => by decide +kernel
  | .bid t p => by
    have : bidS t p ≠ "pass" := fun e => by have := congrArg Str.length e; revert this; rw [bidS_len]; decide +kernel
    exact decide_eq_false this
/-! ### the auction -/
abbrev aNs : List Nat := [a_many_seats, a_begins, a_calls]
def aucD (n f : Nat) (cs : List Cl) : D := .obj 100 aNs [.int (n : Nat), .int (f : Nat), .lst 1 (csD cs)]
abbrev aOs (n f : Nat) (cs : List Cl) : List O := [.pure (.int (n : Nat)), .pure (.int (f : Nat)), .lst (csD cs)]
def sp_Auction_init : FSM := fun ns os ds Q _ => ∃ n f : Nat, ds = [.int (n : Nat), .int (f : Nat)] ∧ ns = [] ∧ os = [] ∧ Q .non aNs (aOs n f [])
def r_Auction_init (Wz : WZ) : ZTS :=
  (zSeq (zPutX [c_Auction, 100] a_many_seats 0 (zVar 1))
  (zSeq (zPutX [c_Auction, 100] a_begins 0 (zVar 2))
  (zPutX [c_Auction, 100] a_calls 0 (zLst zdNil))))
theorem read_Auction_init (a : Addr) (ns : List Nat) (os : List O) (ds : List D) (Q : D → List Nat → List O → Prop) (E : Nat → List Nat → List D → List Nat → List O → Prop) (hs : sp_Auction_init ns os ds Q E) : r_Auction_init (fun cls es es' s => selfK a c_Auction (E cls es es') s) ⟨selfK a c_Auction (Q .non), retM a c_Auction Q, fun _ => False, fun _ => False⟩ (some (.ins a c_Auction ns os) :: args ds 2) := by
  obtain ⟨n, f, rfl, rfl, rfl, q⟩ := hs
  walk_at "zz"
  exact ⟨⟨rfl, rfl⟩, q⟩
def sp_Auction_seat_of : FS := fun ds Q _ => ∃ (n f : Nat) (cs : List Cl) (k : Nat), ds = [aucD n f cs, .int (k : Nat)] ∧ 0 < n ∧ Q (.d (.int ((f + k) % n : Nat)))
def r_Auction_seat_of (Wz : WZ) : ZTS :=
  (zRet (zBin zModC (zBin zAddC (zFld [c_Auction, 100] a_begins (zVar 0)) (zVar 1)) (zFld [c_Auction, 100] a_many_seats (zVar 0))))
theorem read_Auction_seat_of (ds : List D) (Q : RV → Prop) (E : EZ) (hs : sp_Auction_seat_of ds Q E) : r_Auction_seat_of (fun cls ns es _ => E cls ns es) ⟨fun _ => Q (.d .non), retK Q, fun _ => False, fun _ => False⟩ (args ds 2) := by
  obtain ⟨n, f, cs, k, rfl, hn, q⟩ := hs
  walk_at "zz"
  exact q
def sp_Auction_passes : FS := fun ds Q _ => ∃ (n f : Nat) (cs : List Cl), ds = [aucD n f cs] ∧ (∀ c ∈ cs, c.ok) ∧ Q (.d (.int (tailC cs : Nat)))
def r_Auction_passes_b1 (Wz : WZ) : ZTS :=
  (zSeq (zIfS (zT (zBin zNeC (zVar 2) (zC (.str "pass")))) (zRet (zVar 1)) zNext)
  (zSet 1 (zBin zAddC (zVar 1) (zC (.int 1)))))
def r_Auction_passes (Wz : WZ) : ZTS :=
  (zSeq (zSet 1 (zC (.int 0)))
  (zSeq (zFor (ziReversed (zdCons (zFld [c_Auction, 100] a_calls (zVar 0)) zdNil)) (gN 2) (r_Auction_passes_b1 Wz))
  (zRet (zVar 1))))
theorem bidD_pl {t p : Nat} : (bidD t p).pl 60 = true := by
  match p with
  | 0 => rfl
  | 1 => rfl
  | 2 => rfl
  | 3 => rfl
  | n + 4 => rfl
theorem passes_loop (Wz : WZ) (nx : SS → Prop) (rt : RV → SS → Prop) (x0 : Option O) : ∀ (l : List Cl) (a : Nat) (x2 : Option O), (∀ y, nx [x0, some (.pure (.int (a + tailL l : Nat))), y]) → (∀ y, rt (.d (.int (a + tailL l : Nat))) [x0, some (.pure (.int (a + tailL l : Nat))), y]) →
    zForL (gN 2) (r_Auction_passes_b1 Wz) nx rt (csD l) [x0, some (.pure (.int (a : Nat))), x2]
  | [], a, x2, q, q2 => q x2
  | c :: l, a, x2, q, q2 => by
    show zForL _ _ _ _ (c.d :: csD l) _
    cases c with
    | pas =>
      walk_at "zz"
      have e : a + tailL (.pas :: l) = (a + 1) + tailL l := by show a + (tailL l + 1) = _; omega
      rw [e] at q q2
      exact passes_loop Wz nx rt x0 l (a + 1) _ q q2
    | dbl => walk_at "zz"; exact q2 _
    | agn => walk_at "zz"; exact q2 _
    | bid t p =>
      conv => whnf
      refine And.intro (Sd.mk ⟨bidD_pl, by decide +kernel⟩) ?_
      walk_at "zz"
      exact q2 _
theorem read_Auction_passes (ds : List D) (Q : RV → Prop) (E : EZ) (hs : sp_Auction_passes ds Q E) : r_Auction_passes (fun cls ns es _ => E cls ns es) ⟨fun _ => Q (.d .non), retK Q, fun _ => False, fun _ => False⟩ (args ds 3) := by
  obtain ⟨n, f, cs, rfl, hv, q⟩ := hs
  have e : (csD cs).reverse = csD cs.reverse := by unfold csD; rw [List.map_reverse]
  have e0 : 0 + tailL cs.reverse = tailC cs := Nat.zero_add _
  have lp := passes_loop (fun cls ns es _ => E cls ns es) (fun ss => zRet (zVar 1) ⟨fun _ => Q (.d .non), retK Q, fun _ => False, fun _ => False⟩ ss) (retK Q) (some (.pure (aucD n f cs))) cs.reverse 0 none (fun y => by rw [e0]; exact q) (fun y => by rw [e0]; exact q)
  rw [← e] at lp
  walk_at "zz"
  exact lp
def sp_Auction_is_done : FS := fun ds Q _ => ∃ (n f : Nat) (cs : List Cl), ds = [aucD n f cs] ∧ (∀ c ∈ cs, c.ok) ∧ Q (.d (.bl (overC n cs)))
def r_Auction_is_done (Wz : WZ) : ZTS :=
  (zSeq (zIfS (zT (zBin zEqC (zMthL [(100, sp_Auction_passes)] a_passes Wz 0 zaNil) (zCB zLenC (zaCons (zFld [c_Auction, 100] a_calls (zVar 0)) zaNil)))) (zRet (zBin zEqC (zCB zLenC (zaCons (zFld [c_Auction, 100] a_calls (zVar 0)) zaNil)) (zFld [c_Auction, 100] a_many_seats (zVar 0)))) zNext)
  (zRet (zBin zEqC (zMthL [(100, sp_Auction_passes)] a_passes Wz 0 zaNil) (zBin zSubC (zFld [c_Auction, 100] a_many_seats (zVar 0)) (zC (.int 1))))))
theorem read_Auction_is_done (ds : List D) (Q : RV → Prop) (E : EZ) (hs : sp_Auction_is_done ds Q E) : r_Auction_is_done (fun cls ns es _ => E cls ns es) ⟨fun _ => Q (.d .non), retK Q, fun _ => False, fun _ => False⟩ (args ds 1) := by
  obtain ⟨n, f, cs, rfl, hv, q⟩ := hs
  have lc := csD_len cs
  walk_at "zz"
  refine ⟨n, f, cs, rfl, hv, ?_⟩
  walk_at "zz"
  refine ⟨fun h => ?_, fun h => ?_⟩
  · have h2 : tailC cs = cs.length := by have := bT (p := ((tailC cs : Nat) : Int) = ((csD cs).length : Nat)) h; omega
    walk_at "zz"
    have e : overC n cs = decide (((csD cs).length : Int) = (n : Nat)) := by
      unfold overC; rw [if_pos h2, lc]
      by_cases z : cs.length = n
      · rw [decide_eq_true z]; exact (decide_eq_true (by omega)).symm
      · rw [decide_eq_false z]; exact (decide_eq_false (by omega)).symm
    rw [e] at q; exact q
  · have h2 : ¬ tailC cs = cs.length := by have := bF (p := ((tailC cs : Nat) : Int) = ((csD cs).length : Nat)) h; omega
    walk_at "zz"
    refine ⟨n, f, cs, rfl, hv, ?_⟩
    walk_at "zz"
    have e : overC n cs = decide (((tailC cs : Nat) : Int) = (n : Nat) - 1) := by
      unfold overC; rw [if_neg h2]
      by_cases z : tailC cs + 1 = n
      · rw [decide_eq_true z]; exact (decide_eq_true (by omega)).symm
      · rw [decide_eq_false z]; exact (decide_eq_false (by omega)).symm
    rw [e] at q; exact q
def dueD (n f : Nat) (cs : List Cl) : D := if overC n cs = true then .non else .int ((f + cs.length) % n : Nat)
def sp_Auction_turn : FS := fun ds Q _ => ∃ (n f : Nat) (cs : List Cl), ds = [aucD n f cs] ∧ 0 < n ∧ (∀ c ∈ cs, c.ok) ∧ Q (.d (dueD n f cs))
def r_Auction_turn (Wz : WZ) : ZTS :=
  (zSeq (zIfS (zT (zMthL [(100, sp_Auction_is_done)] a_is_done Wz 0 zaNil)) (zRet (zC .non)) zNext)
  (zRet (zMthL [(100, sp_Auction_seat_of)] a_seat_of Wz 0 (zaCons (zCB zLenC (zaCons (zFld [c_Auction, 100] a_calls (zVar 0)) zaNil)) zaNil))))
theorem read_Auction_turn (ds : List D) (Q : RV → Prop) (E : EZ) (hs : sp_Auction_turn ds Q E) : r_Auction_turn (fun cls ns es _ => E cls ns es) ⟨fun _ => Q (.d .non), retK Q, fun _ => False, fun _ => False⟩ (args ds 1) := by
  obtain ⟨n, f, cs, rfl, hn, hv, q⟩ := hs
  have lc := csD_len cs
  walk_at "zz"
  refine ⟨n, f, cs, rfl, hv, ?_⟩
  walk_at "zz"
  refine ⟨fun h => ?_, fun h => ?_⟩
  · walk_at "zz"
    unfold dueD at q; rw [if_pos h] at q; exact q
  · walk_at "zz"
    unfold dueD at q; rw [if_neg (by rw [h]; decide)] at q
    refine ⟨n, f, cs, cs.length, ?_, hn, ?_⟩
    · rw [← lc]; rfl
    · walk_at "zz"
      exact q
def foundD (n f : Nat) : LastT → D
  | (none, _) => .non
  | (some (k, t, p), tm) => .tup [bidD t p, .int ((f + k) % n : Nat), .int (tm : Nat)]
def sp_Auction_standing : FS := fun ds Q _ => ∃ (n f : Nat) (cs : List Cl), ds = [aucD n f cs] ∧ 0 < n ∧ Val cs ∧ cs.length ≤ 40 ∧ Q (.d (foundD n f (lastC cs)))
def r_Auction_standing_b1 (Wz : WZ) : ZTS :=
  (zIfS (zT (zIsi .tuple (zVar 3))) (zSet 1 (zTup (zdCons (zVar 3) (zdCons (zMthL [(100, sp_Auction_seat_of)] a_seat_of Wz 0 (zaCons (zVar 2) zaNil)) (zdCons (zC (.int 1)) zdNil))))) (zIfS (zT (zBin zNeC (zVar 3) (zC (.str "pass")))) (zSet 1 (zTup (zdCons (zBin zIxC (zVar 1) (zC (.int 0))) (zdCons (zBin zIxC (zVar 1) (zC (.int 1))) (zdCons (zBin zMulC (zC (.int 2)) (zBin zIxC (zVar 1) (zC (.int 2)))) zdNil))))) zNext))
def r_Auction_standing (Wz : WZ) : ZTS :=
  (zSeq (zSet 1 (zC .non))
  (zSeq (zFor (ziEnumX (zdCons (zFld [c_Auction, 100] a_calls (zVar 0)) zdNil)) (gT 2 (gsCons (gN 2) (gsCons (gN 3) gsNil))) (r_Auction_standing_b1 Wz))
  (zRet (zVar 1))))
theorem standing_loop (Wz : WZ) (nx : SS → Prop) (rt : RV → SS → Prop) (n f : Nat) (hn : 0 < n) (cs0 : List Cl) : ∀ (l pre : List Cl) (x2 x3 : Option O), Val (pre ++ l) → (pre ++ l).length ≤ 40 → (∀ x2 x3, nx [some (.pure (aucD n f cs0)), some (.pure (foundD n f (lastC (pre ++ l)))), x2, x3]) →
    zForL (gT 2 (gsCons (gN 2) (gsCons (gN 3) gsNil))) (r_Auction_standing_b1 Wz) nx rt (enF Cl.d pre.length l) [some (.pure (aucD n f cs0)), some (.pure (foundD n f (lastC pre))), x2, x3]
  | [], pre, x2, x3, V, hl, q => by rw [List.append_nil] at q; exact q x2 x3
  | c :: l, pre, x2, x3, V, hl, q => by
    have e1 : pre ++ c :: l = (pre ++ [c]) ++ l := by rw [List.append_assoc]; rfl
    have e2 : (pre ++ [c]).length = pre.length + 1 := by simp
    have lp := fun x2 x3 => standing_loop Wz nx rt n f hn cs0 l (pre ++ [c]) x2 x3 (e1 ▸ V) (e1 ▸ hl) (fun x2 x3 => e1 ▸ q x2 x3)
    rw [e2, lastC_snoc] at lp
    have db := V.db pre c l rfl
    have tm := last_tm pre
    have hl2 : pre.length ≤ 40 := by rw [List.length_append] at hl; omega
    have tm2 : (lastC pre).2 ≤ 2 ^ 40 := Nat.le_trans tm (Nat.pow_le_pow_right (by decide) hl2)
    show zForL _ _ _ _ (.tup [.int (pre.length : Nat), c.d] :: enF Cl.d (pre.length + 1) l) _
    generalize lastC pre = a at lp db tm2 ⊢
    obtain ⟨o, m⟩ := a
    cases c with
    | pas => walk_at "zz"; exact lp _ _
    | bid t p =>
      walk_at "zz"
      refine ⟨n, f, cs0, pre.length, rfl, hn, ?_⟩
      walk_at "zz"
      exact lp _ _
    | dbl =>
      obtain ⟨k, t, p, rfl⟩ : ∃ k t p, o = some (k, t, p) := by
        cases o with
        | none => exact absurd rfl (db (.inl rfl))
        | some x => exact ⟨x.1, x.2.1, x.2.2, rfl⟩
      have tm3 : m ≤ 2 ^ 40 := tm2
      have m1 : CMulW 2 (m : Nat) := mulR (by show (m : Int).natAbs < _; rw [Int.natAbs_natCast]; exact Nat.lt_of_le_of_lt tm3 (by decide))
      walk_at "zz"
      exact lp _ _
    | agn =>
      obtain ⟨k, t, p, rfl⟩ : ∃ k t p, o = some (k, t, p) := by
        cases o with
        | none => exact absurd rfl (db (.inr rfl))
        | some x => exact ⟨x.1, x.2.1, x.2.2, rfl⟩
      have tm3 : m ≤ 2 ^ 40 := tm2
      have m1 : CMulW 2 (m : Nat) := mulR (by show (m : Int).natAbs < _; rw [Int.natAbs_natCast]; exact Nat.lt_of_le_of_lt tm3 (by decide))
      walk_at "zz"
      exact lp _ _
theorem read_Auction_standing (ds : List D) (Q : RV → Prop) (E : EZ) (hs : sp_Auction_standing ds Q E) : r_Auction_standing (fun cls ns es _ => E cls ns es) ⟨fun _ => Q (.d .non), retK Q, fun _ => False, fun _ => False⟩ (args ds 4) := by
  obtain ⟨n, f, cs, rfl, hn, V, hl, q⟩ := hs
  have e : enD (csD cs) = enF Cl.d 0 cs := enD_map Cl.d cs
  have lp := standing_loop (fun cls ns es _ => E cls ns es) (fun ss => zRet (zVar 1) ⟨fun _ => Q (.d .non), retK Q, fun _ => False, fun _ => False⟩ ss) (retK Q) n f hn cs cs [] none none V hl (fun x2 x3 => by
    show zRet (zVar 1) _ [_, some (.pure (foundD n f (lastC cs))), _, _]
    walk_at "zz"
    exact q)
  rw [show ([] : List Cl).length = 0 from rfl, ← e] at lp
  walk_at "zz"
  exact lp
def sideN (n s : Nat) : Nat := if n = 4 then s % 2 else s
def sp_side_of : FS := fun ds Q _ => ∃ n s : Nat, ds = [.int (n : Nat), .int (s : Nat)] ∧ Q (.d (.int (sideN n s : Nat)))
def r_side_of (Wz : WZ) : ZTS :=
  (zSeq (zIfS (zT (zBin zEqC (zVar 0) (zC (.int 4)))) (zRet (zBin zModC (zVar 1) (zC (.int 2)))) zNext)
  (zRet (zVar 1)))
theorem read_side_of (ds : List D) (Q : RV → Prop) (E : EZ) (hs : sp_side_of ds Q E) : r_side_of (fun cls ns es _ => E cls ns es) ⟨fun _ => Q (.d .non), retK Q, fun _ => False, fun _ => False⟩ (args ds 2) := by
  obtain ⟨n, s, rfl, q⟩ := hs
  walk_at "zz"
  refine ⟨fun h => ?_, fun h => ?_⟩
  · have h2 : n = 4 := by have := bT (p := ((n : Nat) : Int) = 4) h; omega
    walk_at "zz"
    unfold sideN at q; rw [if_pos h2] at q; exact q
  · have h2 : ¬ n = 4 := by have := bF (p := ((n : Nat) : Int) = 4) h; omega
    walk_at "zz"
    unfold sideN at q; rw [if_neg h2] at q; exact q
def sp_above : FS := fun ds Q _ => ∃ t p t' p' : Nat, ds = [bidD t p, bidD t' p'] ∧ p < 5 ∧ p' < 5 ∧ Q (.d (.bl (decide (rkC t' p' < rkC t p))))
def r_above (Wz : WZ) : ZTS :=
  (zSeq (zIfS (zT (zBin zNeC (zBin zIxC (zVar 0) (zC (.int 0))) (zBin zIxC (zVar 1) (zC (.int 0))))) (zRet (zBin zGtX (zBin zIxC (zVar 0) (zC (.int 0))) (zBin zIxC (zVar 1) (zC (.int 0))))) zNext)
  (zRet (zBin zGtX (zCall sp_place_of Wz (zaCons (zBin zIxC (zVar 0) (zC (.int 1))) zaNil)) (zCall sp_place_of Wz (zaCons (zBin zIxC (zVar 1) (zC (.int 1))) zaNil)))))
theorem read_above (ds : List D) (Q : RV → Prop) (E : EZ) (hs : sp_above ds Q E) : r_above (fun cls ns es _ => E cls ns es) ⟨fun _ => Q (.d .non), retK Q, fun _ => False, fun _ => False⟩ (args ds 2) := by
  obtain ⟨t, p, t', p', rfl, hp, hp', q⟩ := hs
  unfold rkC at q
  walk_at "zz"
  refine ⟨fun e => ?_, fun e => ?_⟩
  · have h2 : ¬ t = t' := by have := nbT (p := ((t : Int) + 1) = ((t' : Int) + 1)) e; omega
    walk_at "zz"
    have e1 : decide (5 * t' + p' < 5 * t + p) = decide (((t' : Int) + 1) < ((t : Int) + 1)) := by
      by_cases z : t' < t
      · rw [decide_eq_true (show 5 * t' + p' < 5 * t + p by omega)]; exact (decide_eq_true (by omega)).symm
      · rw [decide_eq_false (show ¬ 5 * t' + p' < 5 * t + p by omega)]; exact (decide_eq_false (by omega)).symm
    rw [e1] at q
    exact q
  · have h2 : t = t' := by have := nbF (p := ((t : Int) + 1) = ((t' : Int) + 1)) e; omega
    walk_at "zz"
    refine ⟨p, rfl, hp, ?_⟩
    walk_at "zz"
    refine ⟨p', rfl, hp', ?_⟩
    have e1 : decide (5 * t' + p' < 5 * t + p) = decide ((p' : Int) < (p : Int)) := by
      by_cases z : p' < p
      · rw [decide_eq_true (show 5 * t' + p' < 5 * t + p by omega)]; exact (decide_eq_true (by omega)).symm
      · rw [decide_eq_false (show ¬ 5 * t' + p' < 5 * t + p by omega)]; exact (decide_eq_false (by omega)).symm
    rw [e1] at q
    exact q
/-- the sides are one -/
theorem side_own {n f k l : Nat} (hn : n = 3 ∨ n = 4) (h : k ≤ l) : (sideN n ((f + l) % n) = sideN n ((f + k) % n)) ↔ ownC n (l - k) = true := by
  unfold sideN ownC
  rcases hn with rfl | rfl
  · simp; omega
  · simp; omega
def sp_Auction_wrong : FS := fun ds Q _ => ∃ (n f : Nat) (cs : List Cl) (c : Cl), ds = [aucD n f cs, c.d] ∧ (n = 3 ∨ n = 4) ∧ Val cs ∧ c.ok ∧ cs.length ≤ 40 ∧ (standsC n cs c = true → Q (.d .non)) ∧ (standsC n cs c = false → ∀ s, Q (.d (.str s)))
def r_Auction_wrong_t5 (Wz : WZ) : ZTS :=
  (zSeq (zSet 3 (zBin zEqC (zCall sp_side_of Wz (zaCons (zFld [c_Auction, 100] a_many_seats (zVar 0)) (zaCons (zMthL [(100, sp_Auction_turn)] a_turn Wz 0 zaNil) zaNil))) (zCall sp_side_of Wz (zaCons (zFld [c_Auction, 100] a_many_seats (zVar 0)) (zaCons (zBin zIxC (zVar 2) (zC (.int 1))) zaNil)))))
  (zSeq (zIfS (zOr (zAnd (zT (zBin zEqC (zVar 1) (zC (.str "double")))) (zOr (zT (zVar 3)) (zT (zBin zNeC (zBin zIxC (zVar 2) (zC (.int 2))) (zC (.int 1)))))) (zAnd (zT (zBin zEqC (zVar 1) (zC (.str "again")))) (zOr (zNot (zT (zVar 3))) (zT (zBin zNeC (zBin zIxC (zVar 2) (zC (.int 2))) (zC (.int 2))))))) (zRet (zVar 1)) zNext)
  (zRet (zC .non))))
def r_Auction_wrong (Wz : WZ) : ZTS :=
  (zSeq (zIfS (zT (zMthL [(100, sp_Auction_is_done)] a_is_done Wz 0 zaNil)) (zRet (zC (.str "over"))) zNext)
  (zSeq (zSet 2 (zMthL [(100, sp_Auction_standing)] a_standing Wz 0 zaNil))
  (zSeq (zIfS (zT (zIsi .tuple (zVar 1))) (zSeq (zIfS (zAnd (zT (zBin zIsNotC (zVar 2) (zC .non))) (zNot (zT (zCall sp_above Wz (zaCons (zVar 1) (zaCons (zBin zIxC (zVar 2) (zC (.int 0))) zaNil)))))) (zRet (zC (.str "low"))) zNext)
  (zRet (zC .non))) zNext)
  (zSeq (zIfS (zT (zBin zEqC (zVar 1) (zC (.str "pass")))) (zRet (zC .non)) zNext)
  (zSeq (zIfS (zT (zBin zIsC (zVar 2) (zC .non))) (zRet (zVar 1)) zNext)
  (zTail (r_Auction_wrong_t5 Wz)))))))
theorem wrong_fin (Q : RV → Prop) (E : EZ) (n f k t p m : Nat) (cs : List Cl) (c : Cl) (x3 : Option O) (hn : n = 3 ∨ n = 4) (V : Val cs) (hl : cs.length ≤ 40) (ov : overC n cs = false) (la : lastC cs = (some (k, t, p), m)) (hc : c = .dbl ∨ c = .agn)
    (q1 : standsC n cs c = true → Q (.d .non)) (q2 : standsC n cs c = false → ∀ s, Q (.d (.str s))) :
    r_Auction_wrong_t5 (fun cls ns es _ => E cls ns es) ⟨fun _ => Q (.d .non), retK Q, fun _ => False, fun _ => False⟩ [some (.pure (aucD n f cs)), some (.pure c.d), some (.pure (foundD n f (some (k, t, p), m))), x3] := by
  have lo := last_ok V (k := k) (t := t) (p := p) (by rw [la])
  have so := side_own (f := f) hn (Nat.le_of_lt lo.1)
  have du : dueD n f cs = .int ((f + cs.length) % n : Nat) := by unfold dueD; rw [if_neg (by rw [ov]; decide)]
  have n0 : 0 < n := by omega
  walk_at "zz"
  refine ⟨n, f, cs, rfl, n0, V.ok, ?_⟩
  rw [du]
  walk_at "zz"
  refine ⟨n, (f + cs.length) % n, rfl, ?_⟩
  walk_at "zz"
  refine ⟨n, (f + k) % n, rfl, ?_⟩
  walk_at "zz"
  have so2 : decide (((sideN n ((f + cs.length) % n) : Nat) : Int) = ((sideN n ((f + k) % n) : Nat) : Int)) = ownC n (cs.length - k) := by
    cases e : ownC n (cs.length - k) with
    | true => exact decide_eq_true (by rw [so.mpr e])
    | false => exact decide_eq_false fun z => by have := so.mp (by omega); rw [e] at this; cases this
  have e0 : D.eq (.int ((sideN n ((f + cs.length) % n) : Nat) : Int)) (.int ((sideN n ((f + k) % n) : Nat) : Int)) = ownC n (cs.length - k) := so2
  rw [e0]
  rcases hc with rfl | rfl
  · rw [st_dbl ov la] at q1 q2
    generalize ownC n (cs.length - k) = o at q1 q2 ⊢
    cases o with
    | true =>
      walk_at "zz"
      exact q2 rfl _
    | false =>
      walk_at "zz"
      refine ⟨fun h => ?_, fun h => ?_⟩
      · walk_at "zz"
        refine q2 ?_ _
        have : ¬ m = 1 := by have := nbT (p := ((m : Nat) : Int) = 1) h; omega
        show (!false && decide (m = 1)) = false
        rw [decide_eq_false this]; rfl
      · have h2 : m = 1 := by have := nbF (p := ((m : Nat) : Int) = 1) h; omega
        walk_at "zz"
        refine q1 ?_
        show (!false && decide (m = 1)) = true
        rw [decide_eq_true h2]; rfl
  · rw [st_agn ov la] at q1 q2
    generalize ownC n (cs.length - k) = o at q1 q2 ⊢
    cases o with
    | false =>
      walk_at "zz"
      exact q2 rfl _
    | true =>
      walk_at "zz"
      refine ⟨fun h => ?_, fun h => ?_⟩
      · walk_at "zz"
        refine q2 ?_ _
        have : ¬ m = 2 := by have := nbT (p := ((m : Nat) : Int) = 2) h; omega
        show (true && decide (m = 2)) = false
        rw [decide_eq_false this]; rfl
      · have h2 : m = 2 := by have := nbF (p := ((m : Nat) : Int) = 2) h; omega
        walk_at "zz"
        refine q1 ?_
        show (true && decide (m = 2)) = true
        rw [decide_eq_true h2]; rfl
theorem read_Auction_wrong (ds : List D) (Q : RV → Prop) (E : EZ) (hs : sp_Auction_wrong ds Q E) : r_Auction_wrong (fun cls ns es _ => E cls ns es) ⟨fun _ => Q (.d .non), retK Q, fun _ => False, fun _ => False⟩ (args ds 4) := by
  obtain ⟨n, f, cs, c, rfl, hn, V, hc, hl, q1, q2⟩ := hs
  have n0 : 0 < n := by omega
  walk_at "zz"
  refine ⟨n, f, cs, rfl, V.ok, ?_⟩
  have wf := fun k t p m x3 ov la hc => wrong_fin Q E n f k t p m cs c x3 hn V hl ov la hc q1 q2
  have lo := fun k t p => last_ok V (k := k) (t := t) (p := p)
  cases ov : overC n cs with
  | true =>
    rw [st_over ov] at q2
    walk_at "zz"
    exact q2 rfl _
  | false =>
    walk_at "zz"
    refine ⟨n, f, cs, rfl, n0, V, hl, ?_⟩
    rcases la : lastC cs with ⟨o, m⟩
    rcases o with _ | ⟨k, t', p'⟩
    · cases c with
      | pas => rw [st_pas ov] at q1; walk_at "zz"; exact q1 rfl
      | bid t p => rw [st_bid0 ov la] at q1; walk_at "zz"; exact q1 rfl
      | dbl => rw [st_dbl0 ov la] at q2; walk_at "zz"; exact q2 rfl _
      | agn => rw [st_agn0 ov la] at q2; walk_at "zz"; exact q2 rfl _
    · have lk := lo k t' p' (by rw [la])
      cases c with
      | pas => rw [st_pas ov] at q1; walk_at "zz"; exact q1 rfl
      | bid t p =>
        rw [st_bid ov la] at q1 q2
        walk_at "zz"
        refine ⟨t, p, t', p', rfl, hc.2, lk.2.2, ?_⟩
        walk_at "zz"
        refine ⟨fun h => ?_, fun h => ?_⟩
        · walk_at "zz"
          exact q2 (by rw [Bool.not_eq_true'] at h; exact h) _
        · walk_at "zz"
          exact q1 (by rw [Bool.not_eq_false'] at h; exact h)
      | dbl => walk_at "zz"; exact ⟨wf k t' p' m none ov la (.inl rfl)⟩
      | agn => walk_at "zz"; exact ⟨wf k t' p' m none ov la (.inr rfl)⟩
theorem nw_bid {s : Str} {t p : Nat} (h : isB s t p) (w : isW s) : False := by
  have := (isW_len w).1
  rw [h.2.2, bidS_len] at this; omega
theorem cl_w {c : Cl} (w : isW c.s) : c.d = .str c.s := by
  cases c with
  | bid t p => have := (isW_len w).1; rw [show (Cl.bid t p).s = bidS t p from rfl, bidS_len] at this; omega
  | _ => rfl
theorem cl_b {c : Cl} (hc : c.ok) {t p : Nat} (h : isB c.s t p) : c.d = bidD t p := by
  cases c with
  | bid t' p' => obtain ⟨rfl, rfl⟩ := bidS_inj hc.2 h.2.1 h.2.2; rfl
  | pas => exact (nw_bid h (.inl rfl)).elim
  | dbl => exact (nw_bid h (.inr (.inl rfl))).elim
  | agn => exact (nw_bid h (.inr (.inr rfl))).elim
theorem cl_len (c : Cl) : c.s.length ≤ 1000 := by
  cases c with
  | bid t p => show (bidS t p).length ≤ 1000; rw [bidS_len]; decide
  | _ => decide +kernel
theorem cl_some {c : Cl} (hc : c.ok) (h : ¬ isW c.s) (g : ∀ t p, ¬ isB c.s t p) : False := by
  cases c with
  | bid t p => exact g t p ⟨hc.1, hc.2, rfl⟩
  | pas => exact h (.inl rfl)
  | dbl => exact h (.inr (.inl rfl))
  | agn => exact h (.inr (.inr rfl))
def sp_Auction_say : FSM := fun ns os ds Q _ => ∃ (n f : Nat) (cs : List Cl) (c : Cl), ds = [.str c.s] ∧ ns = aNs ∧ os = aOs n f cs ∧ (n = 3 ∨ n = 4) ∧ Val cs ∧ c.ok ∧ cs.length ≤ 40 ∧ standsC n cs c = true ∧ Q .non aNs (aOs n f (cs ++ [c]))
def r_Auction_say (Wz : WZ) : ZTS :=
  (zSeq (zSet 2 (zCall sp_read_call Wz (zaCons (zVar 1) zaNil)))
  (zSeq (zSet 3 (zMthL [(100, sp_Auction_wrong)] a_wrong Wz 0 (zaCons (zVar 2) zaNil)))
  (zSeq (zIfS (zT (zBin zIsNotC (zVar 3) (zC .non))) (fun _ _ => False) zNext)
  (zDrop (zMetF zAppendC [c_Auction, 100] a_calls 0 2)))))
theorem read_Auction_say (a : Addr) (ns : List Nat) (os : List O) (ds : List D) (Q : D → List Nat → List O → Prop) (E : Nat → List Nat → List D → List Nat → List O → Prop) (hs : sp_Auction_say ns os ds Q E) : r_Auction_say (fun cls es es' s => selfK a c_Auction (E cls es es') s) ⟨selfK a c_Auction (Q .non), retM a c_Auction Q, fun _ => False, fun _ => False⟩ (some (.ins a c_Auction ns os) :: args ds 3) := by
  obtain ⟨n, f, cs, c, rfl, rfl, rfl, hn, V, hc, hl, st, q⟩ := hs
  have lc := csD_len cs
  have sl := sizeLine_eq
  walk_at "zz"
  have nb : c.d.nb = true := by
    cases c with
    | bid t p => match p with
      | 0 => rfl
      | 1 => rfl
      | 2 => rfl
      | 3 => rfl
      | p + 4 => rfl
    | _ => rfl
  refine ⟨c.s, rfl, cl_len c, fun w => ?_, fun t p h => ?_, fun h g => (cl_some hc h g).elim⟩
  · rw [← cl_w w]
    walk_at "zz"
    refine ⟨n, f, cs, c, rfl, hn, V, hc, hl, fun _ => ?_, fun h => by rw [st] at h; cases h⟩
    walk_at "zz"
    refine ⟨⟨rfl, rfl⟩, ?_⟩
    show Q _ _ [.pure (.int (n : Nat)), .pure (.int (f : Nat)), .lst (csD cs ++ [c.d])]
    rw [csD_snoc]
    exact q
  · rw [← cl_b hc h]
    walk_at "zz"
    refine ⟨n, f, cs, c, rfl, hn, V, hc, hl, fun _ => ?_, fun h => by rw [st] at h; cases h⟩
    walk_at "zz"
    refine ⟨⟨rfl, rfl⟩, ?_⟩
    show Q _ _ [.pure (.int (n : Nat)), .pure (.int (f : Nat)), .lst (csD cs ++ [c.d])]
    rw [csD_snoc]
    exact q
/-! ### what the laws of callings say -/
theorem fig_bid {t : Nat} (h : t < 8) : atI ("12345678" : Str).cps.toList (t : Int) = some (49 + t) := by
  have : ∀ t < 8, atI ("12345678" : Str).cps.toList ((t : Nat) : Int) = some (49 + t) := by decide +kernel
  exact this t h
theorem let_at' {p : Nat} (hp : p < 5) : atI ("abcdn" : Str).cps.toList (p : Int) = some (letN p) := by
  have : ∀ p < 5, atI ("abcdn" : Str).cps.toList ((p : Nat) : Int) = some (letN p) := by decide +kernel
  exact this p hp
def sp_law_text : FS := fun ds Q _ => ∃ r : Nat, ds = [.int (r : Nat)] ∧ r < 40 ∧ Q (.d (.str (bidS (r / 5) (r % 5))))
def r_law_text (Wz : WZ) : ZTS :=
  (zRet (zBin zAddC (zBin zIxC (zC (.str "12345678")) (zBin zFdivC (zVar 0) (zC (.int 5)))) (zBin zIxC (zC (.str "abcdn")) (zBin zModC (zVar 0) (zC (.int 5))))))
theorem read_law_text (ds : List D) (Q : RV → Prop) (E : EZ) (hs : sp_law_text ds Q E) : r_law_text (fun cls ns es _ => E cls ns es) ⟨fun _ => Q (.d .non), retK Q, fun _ => False, fun _ => False⟩ (args ds 1) := by
  obtain ⟨r, rfl, hr, q⟩ := hs
  walk_at "zz"
  refine ⟨_, fig_bid (t := r / 5) (by omega), ?_⟩
  walk_at "zz"
  refine ⟨_, let_at' (p := r % 5) (by omega), ?_⟩
  walk_at "zz"
  exact q
def sp_law_rank : FS := fun ds Q _ => ∃ t p : Nat, ds = [.str (bidS t p)] ∧ t < 8 ∧ p < 5 ∧ Q (.d (.int (rkC t p : Nat)))
def r_law_rank (Wz : WZ) : ZTS :=
  (zRet (zBin zAddC (zBin zMulC (zC (.int 5)) (zMq 1 zSIndexC (zC (.str "12345678")) (zaCons (zBin zIxC (zVar 0) (zC (.int 0))) zaNil))) (zMq 1 zSIndexC (zC (.str "abcdn")) (zaCons (zBin zIxC (zVar 0) (zC (.int 1))) zaNil))))
theorem read_law_rank (ds : List D) (Q : RV → Prop) (E : EZ) (hs : sp_law_rank ds Q E) : r_law_rank (fun cls ns es _ => E cls ns es) ⟨fun _ => Q (.d .non), retK Q, fun _ => False, fun _ => False⟩ (args ds 1) := by
  obtain ⟨t, p, rfl, ht, hp, q⟩ := hs
  obtain ⟨r1, e1⟩ := fig_ix ht
  obtain ⟨r2, e2⟩ := let_ix hp
  unfold bidS
  walk_at "zz"
  refine ⟨t, r1, e1, ?_⟩
  have m1 : CMulW 5 (t : Nat) := mulR (by omega)
  walk_at "zz"
  refine ⟨p, r2, e2, ?_⟩
  walk_at "zz"
  exact q
def sp_law_over : FS := fun ds Q _ => ∃ (m : Nat) (cs : List Cl) (n : Nat), ds = [.lst m (csS cs), .int (n : Nat)] ∧ (∀ c ∈ cs, c.ok) ∧ cs.length ≤ 40 ∧ Q (.d (.bl (overC n cs)))
def r_law_over_b1 (Wz : WZ) : ZTS :=
  (zSet 2 (zBin zAddC (zVar 2) (zC (.int 1))))
def r_law_over (Wz : WZ) : ZTS :=
  (zSeq (zSet 2 (zC (.int 0)))
  (zSeq (zWhile (zAnd (zT (zBin zLtX (zVar 2) (zCB zLenC (zaCons (zVar 0) zaNil)))) (zT (zBin zEqC (zBin zIxC (zVar 0) (zBin zSubC (zBin zSubC (zCB zLenC (zaCons (zVar 0) zaNil)) (zC (.int 1))) (zVar 2))) (zC (.str "pass"))))) (r_law_over_b1 Wz))
  (zSeq (zIfS (zT (zBin zEqC (zVar 2) (zCB zLenC (zaCons (zVar 0) zaNil)))) (zRet (zBin zEqC (zVar 2) (zVar 1))) zNext)
  (zRet (zBin zEqC (zVar 2) (zBin zSubC (zVar 1) (zC (.int 1))))))))
theorem read_law_over (ds : List D) (Q : RV → Prop) (E : EZ) (hs : sp_law_over ds Q E) : r_law_over (fun cls ns es _ => E cls ns es) ⟨fun _ => Q (.d .non), retK Q, fun _ => False, fun _ => False⟩ (args ds 3) := by
  obtain ⟨m, cs, n, rfl, hv, hl, q⟩ := hs
  have lc := csS_len cs
  walk_at "zz"
  refine while_W (fun m' ss => ∃ j : Nat, m' = 41 - j ∧ j ≤ cs.length ∧ tailC cs = j + tailL (cs.reverse.drop j) ∧ ss = [some (.pure (.lst m (csS cs))), some (.pure (.int (n : Nat))), some (.pure (.int (j : Nat)))]) 41 ⟨0, rfl, Nat.zero_le _, by rw [List.drop_zero, Nat.zero_add]; rfl, rfl⟩ ?_
  rintro m' ss ⟨j, hm, hj, ht, rfl⟩
  have fin : tailC cs = j → zSeq (zIfS (zT (zBin zEqC (zVar 2) (zCB zLenC (zaCons (zVar 0) zaNil)))) (zRet (zBin zEqC (zVar 2) (zVar 1))) zNext) (zRet (zBin zEqC (zVar 2) (zBin zSubC (zVar 1) (zC (.int 1))))) ⟨fun _ => Q (.d .non), retK Q, fun _ => False, fun _ => False⟩ [some (.pure (.lst m (csS cs))), some (.pure (.int (n : Nat))), some (.pure (.int (j : Nat)))] := fun e => by
    subst e
    unfold overC at q
    walk_at "zz"
    refine ⟨fun h => ?_, fun h => ?_⟩
    · have h2 : tailC cs = cs.length := by have := bT (p := ((tailC cs : Nat) : Int) = ((csS cs).length : Nat)) h; omega
      rw [if_pos h2] at q
      walk_at "zz"
      have e : decide (cs.length = n) = decide (((tailC cs : Nat) : Int) = (n : Nat)) := by
        by_cases z : cs.length = n
        · rw [decide_eq_true z]; exact (decide_eq_true (by omega)).symm
        · rw [decide_eq_false z]; exact (decide_eq_false (by omega)).symm
      rw [e] at q; exact q
    · have h2 : ¬ tailC cs = cs.length := by have := bF (p := ((tailC cs : Nat) : Int) = ((csS cs).length : Nat)) h; omega
      rw [if_neg h2] at q
      walk_at "zz"
      have e : decide (tailC cs + 1 = n) = decide (((tailC cs : Nat) : Int) = (n : Nat) - 1) := by
        by_cases z : tailC cs + 1 = n
        · rw [decide_eq_true z]; exact (decide_eq_true (by omega)).symm
        · rw [decide_eq_false z]; exact (decide_eq_false (by omega)).symm
      rw [e] at q; exact q
  walk_at "zz"
  refine ⟨fun h => ?_, fun h => ?_⟩
  · have h2 : j < cs.length := by have := bT (p := ((j : Nat) : Int) < ((csS cs).length : Nat)) h; omega
    have hr : j < cs.reverse.length := by rw [List.length_reverse]; exact h2
    obtain ⟨c, hc⟩ : ∃ c, cs.reverse[j]? = some c := ⟨_, List.getElem?_eq_getElem hr⟩
    have hc2 : cs[cs.length - 1 - j]? = some c := by rw [← hc, List.getElem?_reverse h2]
    have hd : cs.reverse.drop j = c :: cs.reverse.drop (j + 1) := by
      rw [List.drop_eq_getElem_cons hr]
      congr 1
      have := (List.getElem?_eq_some_iff.mp hc).2; exact this
    rw [hd] at ht
    walk_at "zz"
    refine ⟨_, at_csS (k := cs.length - 1 - j) (by omega) hc2, ?_⟩
    have ip := is_pass c
    cases e : c.isP with
    | true =>
      have e1 : D.eq (.str c.s) (.str "pass") = true := by show decide (c.s = "pass") = true; rw [ip, e]
      have ht2 : tailC cs = (j + 1) + tailL (cs.reverse.drop (j + 1)) := by
        rw [ht]; show j + (match c.isP with | true => _ | false => _) = _
        rw [e]; show j + (_ + 1) = _; omega
      walk_at "zz"
      exact ⟨41 - (j + 1), by omega, j + 1, rfl, h2, ht2, rfl⟩
    | false =>
      have e1 : D.eq (.str c.s) (.str "pass") = false := by show decide (c.s = "pass") = false; rw [ip, e]
      have ht2 : tailC cs = j := by
        rw [ht]; show j + (match c.isP with | true => _ | false => _) = _
        rw [e]; rfl
      conv => whnf
      refine Br.lF e1 ?_
      exact fin ht2
  · have h2 : j = cs.length := by have := bF (p := ((j : Nat) : Int) < ((csS cs).length : Nat)) h; omega
    have ht2 : tailC cs = j := by
      rw [ht, List.drop_eq_nil_of_le (by rw [List.length_reverse]; omega)]; rfl
    exact Br.F (fin ht2)
def atD : LastT → D
  | (none, _) => .non
  | (some (k, _, _), _) => .int (k : Nat)
def sp_law_last : FS := fun ds Q _ => ∃ (m : Nat) (cs : List Cl), ds = [.lst m (csS cs)] ∧ cs.length ≤ 40 ∧ Q (.d (.tup [atD (lastC cs), .int ((lastC cs).2 : Nat)]))
def r_law_last_b1 (Wz : WZ) : ZTS :=
  (zIfS (zT (zBin (zInC false) (zVar 4) (zTup (zdCons (zC (.str "double")) (zdCons (zC (.str "again")) zdNil))))) (zSet 2 (zBin zMulC (zC (.int 2)) (zVar 2))) (zIfS (zT (zBin zNeC (zVar 4) (zC (.str "pass")))) (zSeq (zSet 1 (zVar 3))
  (zSet 2 (zC (.int 1)))) zNext))
def r_law_last (Wz : WZ) : ZTS :=
  (zSeq (zSet 1 (zC .non))
  (zSeq (zSet 2 (zC (.int 1)))
  (zSeq (zFor (ziEnumX (zdCons (zVar 0) zdNil)) (gT 2 (gsCons (gN 3) (gsCons (gN 4) gsNil))) (r_law_last_b1 Wz))
  (zRet (zTup (zdCons (zVar 1) (zdCons (zVar 2) zdNil)))))))
theorem last_loop (Wz : WZ) (nx : SS → Prop) (rt : RV → SS → Prop) (x0 : Option O) : ∀ (l pre : List Cl) (x3 x4 : Option O), (pre ++ l).length ≤ 40 → (∀ x3 x4, nx [x0, some (.pure (atD (lastC (pre ++ l)))), some (.pure (.int ((lastC (pre ++ l)).2 : Nat))), x3, x4]) →
    zForL (gT 2 (gsCons (gN 3) (gsCons (gN 4) gsNil))) (r_law_last_b1 Wz) nx rt (enF (fun c : Cl => D.str c.s) pre.length l) [x0, some (.pure (atD (lastC pre))), some (.pure (.int ((lastC pre).2 : Nat))), x3, x4]
  | [], pre, x3, x4, hl, q => by rw [List.append_nil] at q; exact q x3 x4
  | c :: l, pre, x3, x4, hl, q => by
    have e1 : pre ++ c :: l = (pre ++ [c]) ++ l := by rw [List.append_assoc]; rfl
    have e2 : (pre ++ [c]).length = pre.length + 1 := by simp
    have lp := fun x3 x4 => last_loop Wz nx rt x0 l (pre ++ [c]) x3 x4 (e1 ▸ hl) (fun x3 x4 => e1 ▸ q x3 x4)
    rw [e2, lastC_snoc] at lp
    have tm := last_tm pre
    have hl2 : pre.length ≤ 40 := by rw [List.length_append] at hl; omega
    have tm2 : (lastC pre).2 ≤ 2 ^ 40 := Nat.le_trans tm (Nat.pow_le_pow_right (by decide) hl2)
    show zForL _ _ _ _ (.tup [.int (pre.length : Nat), .str c.s] :: enF (fun c : Cl => D.str c.s) (pre.length + 1) l) _
    generalize lastC pre = a at lp tm2 ⊢
    obtain ⟨o, m⟩ := a
    have tm3 : m ≤ 2 ^ 40 := tm2
    have m1 : CMulW 2 (m : Nat) := mulR (by show (m : Int).natAbs < _; rw [Int.natAbs_natCast]; exact Nat.lt_of_le_of_lt tm3 (by decide))
    cases c with
    | pas => walk_at "zz"; exact lp _ _
    | bid t p =>
      have nl : (bidS t p).length = 2 := bidS_len t p
      have w1 : ∀ w : Str, w.length ≠ 2 → (bidS t p) ≠ w := fun w h e => h (by rw [← e]; exact nl)
      have b1 : ([D.str "double", D.str "again"].any fun y => D.eq y (.str (Cl.bid t p).s)) = false := by
        show (decide (("double" : Str) = bidS t p) || (decide (("again" : Str) = bidS t p) || false)) = false
        rw [decide_eq_false fun e => w1 _ (by decide +kernel) e.symm, decide_eq_false fun e => w1 _ (by decide +kernel) e.symm]; rfl
      have b2 : (!D.eq (.str (Cl.bid t p).s) (.str "pass")) = true := by
        show (!decide (bidS t p = "pass")) = true
        rw [decide_eq_false (w1 _ (by decide +kernel))]; rfl
      walk_at "zz"
      refine And.intro (Sd.mk ⟨rfl, rfl⟩) ?_
      conv => whnf
      refine Br.lF b1 ?_
      conv => whnf
      refine Br.lT b2 ?_
      walk_at "zz"
      exact lp _ _
    | dbl => walk_at "zz"; cases o <;> exact lp _ _
    | agn => walk_at "zz"; cases o <;> exact lp _ _
theorem read_law_last (ds : List D) (Q : RV → Prop) (E : EZ) (hs : sp_law_last ds Q E) : r_law_last (fun cls ns es _ => E cls ns es) ⟨fun _ => Q (.d .non), retK Q, fun _ => False, fun _ => False⟩ (args ds 5) := by
  obtain ⟨m, cs, rfl, hl, q⟩ := hs
  have e : enD (csS cs) = enF (fun c : Cl => D.str c.s) 0 cs := enD_map _ cs
  have lp := last_loop (fun cls ns es _ => E cls ns es) (fun ss => zRet (zTup (zdCons (zVar 1) (zdCons (zVar 2) zdNil))) ⟨fun _ => Q (.d .non), retK Q, fun _ => False, fun _ => False⟩ ss) (retK Q) (some (.pure (.lst m (csS cs)))) cs [] none none hl (fun x3 x4 => by
    show zRet _ _ [_, some (.pure (atD (lastC cs))), some (.pure (.int ((lastC cs).2 : Nat))), _, _]
    walk_at "zz"
    exact q)
  rw [show ([] : List Cl).length = 0 from rfl, ← e] at lp
  walk_at "zz"
  exact lp
def ownB (n a b : Nat) : Bool := decide (a = b) || (decide (n = 4) && decide (a % 2 = b % 2))
/-- the first call of the side in the strain -/
def cfind (n k p : Nat) : Nat → List Cl → Option Nat
  | _, [] => none
  | j, .bid _ p' :: l => if p' = p ∧ ownB n (j % n) (k % n) = true then some j else cfind n k p (j + 1) l
  | j, _ :: l => cfind n k p (j + 1) l
def contrD (n f : Nat) (cs : List Cl) : D := match lastC cs with
  | (none, _) => .non
  | (some (k, t, p), m) => match cfind n k p 0 cs with
    | some j => .tup [.int ((t : Int) + 1), strnD p, .int ((f + j) % n : Nat), .int (m : Nat)]
    | none => .non
theorem side_ownB {n f j k : Nat} (hn : n = 3 ∨ n = 4) : (sideN n ((f + j) % n) = sideN n ((f + k) % n)) ↔ ownB n (j % n) (k % n) = true := by
  unfold sideN ownB
  rcases hn with rfl | rfl
  · simp; omega
  · simp; omega
theorem strn_eq {p p' : Nat} (hp : p < 5) (hp' : p' < 5) : D.eq (strnD p) (strnD p') = decide (p = p') := by
  have : ∀ p < 5, ∀ p' < 5, D.eq (strnD p) (strnD p') = decide (p = p') := by decide
  exact this p hp p' hp'
theorem strn_sc {p p' : Nat} : sc2 (strnD p) (strnD p') = true := by
  match p, p' with
  | 0, 0 => rfl | 0, 1 => rfl | 0, 2 => rfl | 0, 3 => rfl | 0, _ + 4 => rfl
  | 1, 0 => rfl | 1, 1 => rfl | 1, 2 => rfl | 1, 3 => rfl | 1, _ + 4 => rfl
  | 2, 0 => rfl | 2, 1 => rfl | 2, 2 => rfl | 2, 3 => rfl | 2, _ + 4 => rfl
  | 3, 0 => rfl | 3, 1 => rfl | 3, 2 => rfl | 3, 3 => rfl | 3, _ + 4 => rfl
  | _ + 4, 0 => rfl | _ + 4, 1 => rfl | _ + 4, 2 => rfl | _ + 4, 3 => rfl | _ + 4, _ + 4 => rfl
theorem eqc_strn {p p' : Nat} {Q : RV → Prop} (hp : p < 5) (hp' : p' < 5) (q : Q (.d (.bl (decide (p = p'))))) : zEqC (strnD p) (strnD p') Q := by
  unfold zEqC
  rw [strn_sc]
  show Q (.d (.bl (D.eq (strnD p) (strnD p'))))
  rw [strn_eq hp hp']; exact q
def sp_Auction_contract : FS := fun ds Q _ => ∃ (n f : Nat) (cs : List Cl), ds = [aucD n f cs] ∧ (n = 3 ∨ n = 4) ∧ Val cs ∧ cs.length ≤ 40 ∧ Q (.d (contrD n f cs))
def r_Auction_contract_b1 (Wz : WZ) : ZTS :=
  (zSeq (zSet 5 (zMthL [(100, sp_Auction_seat_of)] a_seat_of Wz 0 (zaCons (zVar 3) zaNil)))
  (zIfS (zAnd (zT (zIsi .tuple (zVar 4))) (zAnd (zT (zBin zEqC (zBin zIxC (zVar 4) (zC (.int 1))) (zBin zIxC (zBin zIxC (zVar 1) (zC (.int 0))) (zC (.int 1))))) (zT (zBin zEqC (zCall sp_side_of Wz (zaCons (zFld [c_Auction, 100] a_many_seats (zVar 0)) (zaCons (zVar 5) zaNil))) (zVar 2))))) (zRet (zTup (zdCons (zBin zIxC (zBin zIxC (zVar 1) (zC (.int 0))) (zC (.int 0))) (zdCons (zBin zIxC (zBin zIxC (zVar 1) (zC (.int 0))) (zC (.int 1))) (zdCons (zVar 5) (zdCons (zBin zIxC (zVar 1) (zC (.int 2))) zdNil)))))) zNext))
def r_Auction_contract (Wz : WZ) : ZTS :=
  (zSeq (zSet 1 (zMthL [(100, sp_Auction_standing)] a_standing Wz 0 zaNil))
  (zSeq (zIfS (zT (zBin zIsC (zVar 1) (zC .non))) (zRet (zC .non)) zNext)
  (zSeq (zSet 2 (zCall sp_side_of Wz (zaCons (zFld [c_Auction, 100] a_many_seats (zVar 0)) (zaCons (zBin zIxC (zVar 1) (zC (.int 1))) zaNil))))
  (zSeq (zFor (ziEnumX (zdCons (zFld [c_Auction, 100] a_calls (zVar 0)) zdNil)) (gT 2 (gsCons (gN 3) (gsCons (gN 4) gsNil))) (r_Auction_contract_b1 Wz))
  (zRet (zC .non))))))
theorem contract_loop (Q : RV → Prop) (E : EZ) (n f k t p m : Nat) (hn : n = 3 ∨ n = 4) (hp : p < 5) (cs0 : List Cl) (nx : SS → Prop) : ∀ (l : List Cl) (j : Nat) (x3 x4 x5 : Option O), (∀ c ∈ l, c.ok) →
    (∀ i, cfind n k p j l = some i → Q (.d (.tup [.int ((t : Int) + 1), strnD p, .int ((f + i) % n : Nat), .int (m : Nat)]))) → (cfind n k p j l = none → ∀ x3 x4 x5, nx [some (.pure (aucD n f cs0)), some (.pure (foundD n f (some (k, t, p), m))), some (.pure (.int (sideN n ((f + k) % n) : Nat))), x3, x4, x5]) →
    zForL (gT 2 (gsCons (gN 3) (gsCons (gN 4) gsNil))) (r_Auction_contract_b1 (fun cls ns es _ => E cls ns es)) nx (retK Q) (enF Cl.d j l) [some (.pure (aucD n f cs0)), some (.pure (foundD n f (some (k, t, p), m))), some (.pure (.int (sideN n ((f + k) % n) : Nat))), x3, x4, x5]
  | [], j, x3, x4, x5, hv, q1, q2 => q2 rfl x3 x4 x5
  | c :: l, j, x3, x4, x5, hv, q1, q2 => by
    have hc := hv c (by simp)
    have lp := fun x3 x4 x5 => contract_loop Q E n f k t p m hn hp cs0 nx l (j + 1) x3 x4 x5 (fun c h => hv c (List.mem_cons_of_mem _ h))
    have n0 : 0 < n := by omega
    have so := side_ownB (f := f) (j := j) (k := k) hn
    show zForL _ _ _ _ (.tup [.int (j : Nat), c.d] :: enF Cl.d (j + 1) l) _
    cases c with
    | pas => walk_at "zz"; refine ⟨n, f, cs0, j, rfl, n0, ?_⟩; walk_at "zz"; exact lp _ _ _ q1 q2
    | dbl => walk_at "zz"; refine ⟨n, f, cs0, j, rfl, n0, ?_⟩; walk_at "zz"; exact lp _ _ _ q1 q2
    | agn => walk_at "zz"; refine ⟨n, f, cs0, j, rfl, n0, ?_⟩; walk_at "zz"; exact lp _ _ _ q1 q2
    | bid t' p' =>
      have hc2 : p' < 5 := hc.2
      have un : cfind n k p j (.bid t' p' :: l) = if p' = p ∧ ownB n (j % n) (k % n) = true then some j else cfind n k p (j + 1) l := rfl
      walk_at "zz"
      refine ⟨n, f, cs0, j, rfl, n0, ?_⟩
      walk_at "zz"
      rw [strn_sc, strn_eq hc2 hp]
      by_cases e1 : p' = p
      · rw [decide_eq_true e1]
        walk_at "zz"
        refine ⟨n, (f + j) % n, rfl, ?_⟩
        walk_at "zz"
        refine ⟨fun h => ?_, fun h => ?_⟩
        · have h2 : ownB n (j % n) (k % n) = true := so.mp (by have := bT (p := ((sideN n ((f + j) % n) : Nat) : Int) = ((sideN n ((f + k) % n) : Nat) : Int)) h; omega)
          rw [un, if_pos ⟨e1, h2⟩] at q1
          walk_at "zz"
          exact q1 j rfl
        · have h2 : ¬ ownB n (j % n) (k % n) = true := fun z => by have := bF (p := ((sideN n ((f + j) % n) : Nat) : Int) = ((sideN n ((f + k) % n) : Nat) : Int)) h; exact this (by rw [so.mpr z])
          rw [un, if_neg fun z => h2 z.2] at q1 q2
          walk_at "zz"
          exact lp _ _ _ q1 q2
      · rw [un, if_neg fun z => e1 z.1] at q1 q2
        rw [decide_eq_false e1]
        walk_at "zz"
        exact lp _ _ _ q1 q2
theorem read_Auction_contract (ds : List D) (Q : RV → Prop) (E : EZ) (hs : sp_Auction_contract ds Q E) : r_Auction_contract (fun cls ns es _ => E cls ns es) ⟨fun _ => Q (.d .non), retK Q, fun _ => False, fun _ => False⟩ (args ds 6) := by
  obtain ⟨n, f, cs, rfl, hn, V, hl, q⟩ := hs
  have n0 : 0 < n := by omega
  have lo := fun k t p => last_ok V (k := k) (t := t) (p := p)
  have e : enD (csD cs) = enF Cl.d 0 cs := enD_map Cl.d cs
  walk_at "zz"
  refine ⟨n, f, cs, rfl, n0, V, hl, ?_⟩
  unfold contrD at q
  rcases la : lastC cs with ⟨o, m⟩
  rw [la] at q
  rcases o with _ | ⟨k, t, p⟩
  · walk_at "zz"; exact q
  · have lk := lo k t p (by rw [la])
    have lp := contract_loop Q E n f k t p m hn lk.2.2 cs (fun ss => zRet (zC .non) ⟨fun _ => Q (.d .non), retK Q, fun _ => False, fun _ => False⟩ ss) cs 0 none none none V.ok (fun i h => by simp only [h] at q; exact q) (fun h x3 x4 x5 => by
      simp only [h] at q
      walk_at "zz"
      exact q)
    rw [← e] at lp
    walk_at "zz"
    refine ⟨n, (f + k) % n, rfl, ?_⟩
    walk_at "zz"
    exact lp
def sp_law_own : FS := fun ds Q _ => ∃ n a b : Nat, ds = [.int (n : Nat), .int (a : Nat), .int (b : Nat)] ∧ (n = 3 ∨ n = 4) ∧ Q (.d (.bl (ownB n a b)))
def r_law_own (Wz : WZ) : ZTS :=
  (zRet (zOrV (zBin zEqC (zVar 1) (zVar 2)) (zAndV (zBin zEqC (zVar 0) (zC (.int 4))) (zBin zEqC (zBin zModC (zVar 1) (zC (.int 2))) (zBin zModC (zVar 2) (zC (.int 2)))))))
theorem dec_nat (a b : Nat) : decide (((a : Nat) : Int) = (b : Nat)) = decide (a = b) := by
  by_cases z : a = b
  · rw [decide_eq_true z]; exact decide_eq_true (by omega)
  · rw [decide_eq_false z]; exact decide_eq_false (by omega)
theorem read_law_own (ds : List D) (Q : RV → Prop) (E : EZ) (hs : sp_law_own ds Q E) : r_law_own (fun cls ns es _ => E cls ns es) ⟨fun _ => Q (.d .non), retK Q, fun _ => False, fun _ => False⟩ (args ds 3) := by
  obtain ⟨n, a, b, rfl, hn, q⟩ := hs
  unfold ownB at q
  walk_at "zz"
  refine ⟨fun h => ?_, fun h => ?_⟩
  · have h2 : a = b := by have := bT (p := ((a : Nat) : Int) = (b : Nat)) h; omega
    rw [decide_eq_true h2] at q
    exact q
  · have h2 : ¬ a = b := by have := bF (p := ((a : Nat) : Int) = (b : Nat)) h; omega
    rw [decide_eq_false h2] at q
    rcases hn with rfl | rfl
    · walk_at "zz"; exact q
    · walk_at "zz"
      have e : decide ((((a : Nat) : Int) % 2) = (((b : Nat) : Int) % 2)) = decide (a % 2 = b % 2) := by
        by_cases z : a % 2 = b % 2
        · rw [decide_eq_true z]; exact decide_eq_true (by omega)
        · rw [decide_eq_false z]; exact decide_eq_false (by omega)
      show Q (.d (.bl (decide ((((a : Nat) : Int) % 2) = (((b : Nat) : Int) % 2)))))
      rw [e]; exact q
theorem own_BC {n k l : Nat} (hn : n = 3 ∨ n = 4) (h : k ≤ l) : ownB n (l % n) (k % n) = ownC n (l - k) := by
  unfold ownB ownC
  rcases hn with rfl | rfl
  · have : (l % 3 = k % 3) ↔ (l - k) % 3 = 0 := by omega
    simp [this]
  · have h1 : (l % 4 = k % 4) ↔ (l - k) % 4 = 0 := by omega
    have h2 : (l % 2 = k % 2) ↔ (l - k) % 2 = 0 := by omega
    simp [h1, h2]
def sp_law_stands : FS := fun ds Q _ => ∃ (m : Nat) (cs : List Cl) (n : Nat) (c : Cl), ds = [.lst m (csS cs), .int (n : Nat), .str c.s] ∧ (n = 3 ∨ n = 4) ∧ Val cs ∧ c.ok ∧ cs.length ≤ 40 ∧ Q (.d (.bl (standsC n cs c)))
def r_law_stands_t6 (Wz : WZ) : ZTS :=
  (zSeq (zIfS (zT (zBin zEqC (zVar 2) (zC (.str "double")))) (zRet (zAndV (zNotV (zVar 5)) (zBin zEqC (zVar 4) (zC (.int 1))))) zNext)
  (zRet (zAndV (zVar 5) (zBin zEqC (zVar 4) (zC (.int 2))))))
def r_law_stands_t5 (Wz : WZ) : ZTS :=
  (zSeq (zSet 5 (zCall sp_law_own Wz (zaCons (zVar 1) (zaCons (zBin zModC (zCB zLenC (zaCons (zVar 0) zaNil)) (zVar 1)) (zaCons (zBin zModC (zVar 3) (zVar 1)) zaNil)))))
  (zTail (r_law_stands_t6 Wz)))
def r_law_stands (Wz : WZ) : ZTS :=
  (zSeq (zAsg (zCall sp_law_last Wz (zaCons (zVar 0) zaNil)) (gT 2 (gsCons (gN 3) (gsCons (gN 4) gsNil))))
  (zSeq (zIfS (zT (zCall sp_law_over Wz (zaCons (zVar 0) (zaCons (zVar 1) zaNil)))) (zRet (zC (.bl false))) zNext)
  (zSeq (zIfS (zT (zBin zEqC (zVar 2) (zC (.str "pass")))) (zRet (zC (.bl true))) zNext)
  (zSeq (zIfS (zT (zBin (zInC true) (zVar 2) (zTup (zdCons (zC (.str "double")) (zdCons (zC (.str "again")) zdNil))))) (zRet (zOrV (zBin zIsC (zVar 3) (zC .non)) (zBin zGtX (zCall sp_law_rank Wz (zaCons (zVar 2) zaNil)) (zCall sp_law_rank Wz (zaCons (zBin zIxC (zVar 0) (zVar 3)) zaNil))))) zNext)
  (zSeq (zIfS (zT (zBin zIsC (zVar 3) (zC .non))) (zRet (zC (.bl false))) zNext)
  (zTail (r_law_stands_t5 Wz)))))))
theorem stands_fin (Q : RV → Prop) (E : EZ) (md n k t p m : Nat) (cs : List Cl) (c : Cl) (x5 : Option O) (hn : n = 3 ∨ n = 4) (V : Val cs) (ov : overC n cs = false) (la : lastC cs = (some (k, t, p), m)) (hc : c = .dbl ∨ c = .agn) (q : Q (.d (.bl (standsC n cs c)))) :
    r_law_stands_t5 (fun cls ns es _ => E cls ns es) ⟨fun _ => Q (.d .non), retK Q, fun _ => False, fun _ => False⟩ [some (.pure (.lst md (csS cs))), some (.pure (.int (n : Nat))), some (.pure (.str c.s)), some (.pure (.int (k : Nat))), some (.pure (.int (m : Nat))), x5] := by
  have lo := last_ok V (k := k) (t := t) (p := p) (by rw [la])
  have lc := csS_len cs
  have n0 : (0 : Int) < (n : Nat) := by omega
  have fin : ∀ b : Bool, b = ownC n (cs.length - k) → r_law_stands_t6 (fun cls ns es _ => E cls ns es) ⟨fun _ => Q (.d .non), retK Q, fun _ => False, fun _ => False⟩
      [some (.pure (.lst md (csS cs))), some (.pure (.int (n : Nat))), some (.pure (.str c.s)), some (.pure (.int (k : Nat))), some (.pure (.int (m : Nat))), some (.pure (.bl b))] := fun b e => by
    rcases hc with rfl | rfl
    · rw [st_dbl ov la, ← e] at q
      cases b with
      | true => walk_at "zz"; exact q
      | false =>
        walk_at "zz"
        show Q (.d (.bl (decide (((m : Nat) : Int) = (1 : Nat)))))
        rw [dec_nat]; exact q
    · rw [st_agn ov la, ← e] at q
      cases b with
      | false => walk_at "zz"; exact q
      | true =>
        walk_at "zz"
        show Q (.d (.bl (decide (((m : Nat) : Int) = (2 : Nat)))))
        rw [dec_nat]; exact q
  walk_at "zz"
  refine ⟨n, cs.length % n, k % n, ?_, hn, ?_⟩
  · rw [← lc]; rfl
  rw [own_BC hn (Nat.le_of_lt lo.1)]
  walk_at "zz"
  exact ⟨fin _ rfl⟩
theorem in_words (c : Cl) : ([D.str "double", D.str "again"].any fun y => D.eq y (.str c.s)) = (match c with | .dbl => true | .agn => true | _ => false) := by
  cases c with
  | bid t p =>
    have nl : (bidS t p).length = 2 := bidS_len t p
    have w1 : ∀ w : Str, w.length ≠ 2 → (bidS t p) ≠ w := fun w h e => h (by rw [← e]; exact nl)
    show (decide (("double" : Str) = bidS t p) || (decide (("again" : Str) = bidS t p) || false)) = false
    rw [decide_eq_false fun e => w1 _ (by decide +kernel) e.symm, decide_eq_false fun e => w1 _ (by decide +kernel) e.symm]; rfl
  | pas => decide +kernel
  | dbl => decide +kernel
  | agn => decide +kernel
theorem bid_pas (t p : Nat) : D.eq (.str (Cl.bid t p).s) (.str "pass") = false := by
  have := is_pass (.bid t p)
  exact this

theorem read_law_stands (ds : List D) (Q : RV → Prop) (E : EZ) (hs : sp_law_stands ds Q E) : r_law_stands (fun cls ns es _ => E cls ns es) ⟨fun _ => Q (.d .non), retK Q, fun _ => False, fun _ => False⟩ (args ds 6) := by
  obtain ⟨md, cs, n, c, rfl, hn, V, hc, hl, q⟩ := hs
  have lo := fun k t p => last_ok V (k := k) (t := t) (p := p)
  have la' := fun k t p => last_at (cs := cs) (k := k) (t := t) (p := p)
  have fin := fun k t p m x5 ov la hc => stands_fin Q E md n k t p m cs c x5 hn V ov la hc q
  walk_at "zz"
  refine ⟨md, cs, rfl, hl, ?_⟩
  rcases la : lastC cs with ⟨o, m⟩
  walk_at "zz"
  refine ⟨md, cs, n, rfl, V.ok, hl, ?_⟩
  cases ov : overC n cs with
  | true =>
    rw [st_over ov] at q
    walk_at "zz"
    exact q
  | false =>
    cases c with
    | pas => rw [st_pas ov] at q; walk_at "zz"; exact q
    | bid t p =>
      have b1 := in_words (.bid t p)
      have b2 := bid_pas t p
      rcases o with _ | ⟨k, t', p'⟩
      · rw [st_bid0 ov la] at q
        walk_at "zz"
        refine And.intro (Sd.mk ⟨rfl, rfl⟩) ?_
        rw [b1]
        walk_at "zz"
        exact q
      · rw [st_bid ov la] at q
        have lk := lo k t' p' (by rw [la])
        have lk2 := la' k t' p' (by rw [la])
        walk_at "zz"
        refine And.intro (Sd.mk ⟨rfl, rfl⟩) ?_
        rw [b1]
        walk_at "zz"
        refine ⟨t, p, rfl, hc.1, hc.2, ?_⟩
        walk_at "zz"
        refine ⟨_, at_csS (k := k) rfl lk2, ?_⟩
        walk_at "zz"
        refine ⟨t', p', rfl, lk.2.1, lk.2.2, ?_⟩
        walk_at "zz"
        have e1 : decide (rkC t' p' < rkC t p) = decide (((rkC t' p' : Nat) : Int) < ((rkC t p : Nat) : Int)) := by
          by_cases z : rkC t' p' < rkC t p
          · rw [decide_eq_true z]; exact (decide_eq_true (by omega)).symm
          · rw [decide_eq_false z]; exact (decide_eq_false (by omega)).symm
        rw [e1] at q; exact q
    | dbl =>
      rcases o with _ | ⟨k, t', p'⟩
      · rw [st_dbl0 ov la] at q; walk_at "zz"; exact q
      · walk_at "zz"; exact ⟨fin k t' p' m none ov la (.inl rfl)⟩
    | agn =>
      rcases o with _ | ⟨k, t', p'⟩
      · rw [st_agn0 ov la] at q; walk_at "zz"; exact q
      · walk_at "zz"; exact ⟨fin k t' p' m none ov la (.inr rfl)⟩
def sp_law_drawn : FS := fun ds Q _ => ∃ (m : Nat) (ns : List Int) (k : Int) (m2 : Nat) (cs : List Cl) (m3 : Nat) (a b : Int), ds = [.lst m (ns.map .int), .int k, .lst m2 (csS cs), .lst m3 [.int a, .int b]] ∧ (ns.length : Int) ≤ 63 ∧ 0 ≤ k ∧ k < 2 ^ 20 ∧ Val cs ∧ cs.length ≤ 40 ∧ ∀ c : Cl, c.ok → Q (.d (.str c.s))
def r_law_drawn_b1 (Wz : WZ) : ZTS :=
  (zSet 9 (zBin zAddC (zVar 9) (zC (.int 1))))
def r_law_drawn_t5 (Wz : WZ) : ZTS :=
  (zSeq (zIfS (zT (zBin zLtX (zVar 8) (zC (.int 6)))) (zRet (zBin zIxC (zLst (zdCons (zC (.str "pass")) (zdCons (zC (.str "pass")) (zdCons (zC (.str "double")) (zdCons (zC (.str "double")) (zdCons (zC (.str "again")) (zdCons (zC (.str "again")) zdNil))))))) (zVar 8))) zNext)
  (zSeq (zSet 9 (zBin zAddC (zVar 7) (zC (.int 1))))
  (zSeq (zWhile (zAnd (zT (zBin zLtX (zVar 9) (zC (.int 39)))) (zAnd (zT (zBin zLtX (zVar 8) (zC (.int 10)))) (zT (zBin (zInC true) (zBin zModC (zVar 9) (zC (.int 5))) (zVar 3))))) (r_law_drawn_b1 Wz))
  (zRet (zCall sp_law_text Wz (zaCons (zCB zMinC (zaCons (zC (.int 39)) (zaCons (zBin zAddC (zVar 9) (zBin zMulC (zC (.int 5)) (zBin zFdivC (zBin zModC (zBin zFdivC (zVar 4) (zC (.int 12))) (zC (.int 9))) (zC (.int 8))))) zaNil))) zaNil))))))
def r_law_drawn (Wz : WZ) : ZTS :=
  (zSeq (zSet 4 (zCall sp_law_cell Wz (zaCons (zVar 0) (zaCons (zVar 1) zaNil))))
  (zSeq (zAsg (zCall sp_law_last Wz (zaCons (zVar 2) zaNil)) (gT 2 (gsCons (gN 5) (gsCons (gN 6) gsNil))))
  (zSeq (zSet 7 (zNeg (zC (.int 1))))
  (zSeq (zIfS (zT (zBin zIsNotC (zVar 5) (zC .non))) (zSet 7 (zCall sp_law_rank Wz (zaCons (zBin zIxC (zVar 2) (zVar 5)) zaNil))) zNext)
  (zSeq (zSet 8 (zBin zModC (zVar 4) (zC (.int 12))))
  (zTail (r_law_drawn_t5 Wz)))))))
theorem some_word {w : Nat} (h : w < 6) : ∃ c : Cl, c.ok ∧ atI [D.str "pass", D.str "pass", D.str "double", D.str "double", D.str "again", D.str "again"] ((w : Nat) : Int) = some (.str c.s) := by
  match w, h with
  | 0, _ => exact ⟨.pas, trivial, rfl⟩
  | 1, _ => exact ⟨.pas, trivial, rfl⟩
  | 2, _ => exact ⟨.dbl, trivial, rfl⟩
  | 3, _ => exact ⟨.dbl, trivial, rfl⟩
  | 4, _ => exact ⟨.agn, trivial, rfl⟩
  | 5, _ => exact ⟨.agn, trivial, rfl⟩
theorem drawn_fin (Q : RV → Prop) (E : EZ) (x0 x1 x2 x5 x6 : Option O) (m3 : Nat) (a b v low : Int) (v0 : 0 ≤ v) (l0 : -1 ≤ low) (l1 : low ≤ 39) (q : ∀ c : Cl, c.ok → Q (.d (.str c.s))) :
    r_law_drawn_t5 (fun cls ns es _ => E cls ns es) ⟨fun _ => Q (.d .non), retK Q, fun _ => False, fun _ => False⟩ [x0, x1, x2, some (.pure (.lst m3 [.int a, .int b])), some (.pure (.int v)), x5, x6, some (.pure (.int low)), some (.pure (.int (v % 12))), none] := by
  have txt : ∀ r : Nat, r < 40 → Q (.d (.str (bidS (r / 5) (r % 5)))) := fun r h => q (.bid (r / 5) (r % 5)) ⟨by omega, by omega⟩
  walk_at "zz"
  refine ⟨fun h => ?_, fun h => ?_⟩
  · have h2 : v % 12 < 6 := bT h
    obtain ⟨w, hw⟩ : ∃ w : Nat, v % 12 = (w : Nat) := ⟨(v % 12).toNat, by omega⟩
    obtain ⟨c, hc, e⟩ := some_word (w := w) (by omega)
    rw [← hw] at e
    walk_at "zz"
    refine ⟨_, e, ?_⟩
    exact q c hc
  · walk_at "zz"
    refine while_W (fun m' ss => ∃ r : Int, m' = (60 - r).toNat ∧ 0 ≤ r ∧ r ≤ 40 ∧ ss = [x0, x1, x2, some (.pure (.lst m3 [.int a, .int b])), some (.pure (.int v)), x5, x6, some (.pure (.int low)), some (.pure (.int (v % 12))), some (.pure (.int r))]) _ ⟨low + 1, rfl, by omega, by omega, rfl⟩ ?_
    rintro m' ss ⟨r, hm, r0, r1, rfl⟩
    have fin : zRet (zCall sp_law_text (fun cls ns es _ => E cls ns es) (zaCons (zCB zMinC (zaCons (zC (.int 39)) (zaCons (zBin zAddC (zVar 9) (zBin zMulC (zC (.int 5)) (zBin zFdivC (zBin zModC (zBin zFdivC (zVar 4) (zC (.int 12))) (zC (.int 9))) (zC (.int 8))))) zaNil))) zaNil)) ⟨fun _ => Q (.d .non), retK Q, fun _ => False, fun _ => False⟩ [x0, x1, x2, some (.pure (.lst m3 [.int a, .int b])), some (.pure (.int v)), x5, x6, some (.pure (.int low)), some (.pure (.int (v % 12))), some (.pure (.int r))] := by
      have mm : CMulW 5 (v / 12 % 9 / 8) := mulR (by omega)
      walk_at "zz"
      refine .inr ⟨_, _, rfl, ?_⟩
      walk_at "zz"
      have b : 0 ≤ (if r + 5 * (v / 12 % 9 / 8) < 39 then r + 5 * (v / 12 % 9 / 8) else 39) ∧ (if r + 5 * (v / 12 % 9 / 8) < 39 then r + 5 * (v / 12 % 9 / 8) else 39) < 40 := by split <;> omega
      generalize (if r + 5 * (v / 12 % 9 / 8) < 39 then r + 5 * (v / 12 % 9 / 8) else 39) = r at b ⊢
      refine ⟨r.toNat, ?_, by omega, txt _ (by omega)⟩
      rw [Int.toNat_of_nonneg b.1]
    walk_at "zz"
    refine ⟨fun h => ?_, fun h => ?_⟩
    · have h2 : r < 39 := bT h
      walk_at "zz"
      refine ⟨fun h3 => ?_, fun h3 => ?_⟩
      · walk_at "zz"
        refine And.intro (Sd.mk ⟨rfl, rfl⟩) ?_
        conv => whnf
        refine ⟨fun h4 => ?_, fun h4 => ?_⟩
        · walk_at "zz"
          exact ⟨(60 - (r + 1)).toNat, by omega, r + 1, rfl, by omega, by omega, rfl⟩
        · exact fin
      · exact Br.F fin
    · exact Br.F fin
theorem read_law_drawn (ds : List D) (Q : RV → Prop) (E : EZ) (hs : sp_law_drawn ds Q E) : r_law_drawn (fun cls ns es _ => E cls ns es) ⟨fun _ => Q (.d .non), retK Q, fun _ => False, fun _ => False⟩ (args ds 10) := by
  obtain ⟨m, ns, k, m2, cs, m3, a, b, rfl, hns, k0, k1, V, hl, q⟩ := hs
  walk_at "zz"
  refine ⟨m, ns, k, rfl, hns, k0, k1, fun v v0 v1 => ?_⟩
  walk_at "zz"
  refine ⟨m2, cs, rfl, hl, ?_⟩
  have lo := fun k t p => last_ok V (k := k) (t := t) (p := p)
  have la' := fun k t p => last_at (cs := cs) (k := k) (t := t) (p := p)
  rcases la : lastC cs with ⟨o, tm⟩
  rcases o with _ | ⟨k, t', p'⟩
  · walk_at "zz"
    exact ⟨drawn_fin Q E _ _ _ _ _ _ _ _ v (-1) v0 (by omega) (by omega) q⟩
  · have lk := lo k t' p' (by rw [la])
    have lk2 := la' k t' p' (by rw [la])
    have rk : rkC t' p' ≤ 39 := by unfold rkC; omega
    walk_at "zz"
    refine ⟨_, at_csS (k := k) rfl lk2, ?_⟩
    walk_at "zz"
    refine ⟨t', p', rfl, lk.2.1, lk.2.2, ?_⟩
    walk_at "zz"
    exact ⟨drawn_fin Q E _ _ _ _ _ _ _ _ v _ v0 (by omega) (by omega) q⟩
def sp_law_due : FS := fun ds Q _ => ∃ (m : Nat) (cs : List Cl) (n f : Nat), ds = [.lst m (csS cs), .int (n : Nat), .int (f : Nat)] ∧ (n = 3 ∨ n = 4) ∧ Val cs ∧ cs.length ≤ 40 ∧ Q (.d (contrD n f cs))
def r_law_due_b1 (Wz : WZ) : ZTS :=
  (zIfS (zAnd (zT (zBin (zInC true) (zVar 7) (zTup (zdCons (zC (.str "pass")) (zdCons (zC (.str "double")) (zdCons (zC (.str "again")) zdNil)))))) (zT (zBin zEqC (zBin zModC (zCall sp_law_rank Wz (zaCons (zVar 7) zaNil)) (zC (.int 5))) (zBin zModC (zVar 5) (zC (.int 5)))))) (zIfS (zT (zCall sp_law_own Wz (zaCons (zVar 1) (zaCons (zBin zModC (zVar 6) (zVar 1)) (zaCons (zBin zModC (zVar 3) (zVar 1)) zaNil))))) (zSeq (zSet 8 (zBin zIxC (zLst (zdCons (zC (.int 0)) (zdCons (zC (.int 1)) (zdCons (zC (.int 2)) (zdCons (zC (.int 3)) (zdCons (zC .non) zdNil)))))) (zBin zModC (zVar 5) (zC (.int 5)))))
  (zRet (zTup (zdCons (zBin zAddC (zC (.int 1)) (zBin zFdivC (zVar 5) (zC (.int 5)))) (zdCons (zVar 8) (zdCons (zBin zModC (zBin zAddC (zVar 2) (zVar 6)) (zVar 1)) (zdCons (zVar 4) zdNil))))))) zNext) zNext)
def r_law_due (Wz : WZ) : ZTS :=
  (zSeq (zAsg (zCall sp_law_last Wz (zaCons (zVar 0) zaNil)) (gT 2 (gsCons (gN 3) (gsCons (gN 4) gsNil))))
  (zSeq (zIfS (zT (zBin zIsC (zVar 3) (zC .non))) (zRet (zC .non)) zNext)
  (zSeq (zSet 5 (zCall sp_law_rank Wz (zaCons (zBin zIxC (zVar 0) (zVar 3)) zaNil)))
  (zSeq (zFor (ziEnumX (zdCons (zVar 0) zdNil)) (gT 2 (gsCons (gN 6) (gsCons (gN 7) gsNil))) (r_law_due_b1 Wz))
  (zRet (zC .non))))))
theorem no_word (t p : Nat) : ([D.str "pass", D.str "double", D.str "again"].any fun y => D.eq y (.str (Cl.bid t p).s)) = false := by
  rw [any_words]
  have nl : (Cl.bid t p).s.length = 2 := bidS_len t p
  have w1 : ∀ w : Str, w.length ≠ 2 → w ≠ (Cl.bid t p).s := fun w h e => h (by rw [e]; exact nl)
  rw [decide_eq_false (w1 _ (by decide +kernel)), decide_eq_false (w1 _ (by decide +kernel)), decide_eq_false (w1 _ (by decide +kernel))]; rfl
theorem strn_at {r p : Nat} (h : r % 5 = p) : atI [D.int 0, D.int 1, D.int 2, D.int 3, D.non] (((r : Nat) : Int) % 5) = some (strnD p) := by
  have e : ((r : Nat) : Int) % 5 = (p : Nat) := by omega
  rw [e]
  have hp : p < 5 := by omega
  match p, hp with
  | 0, _ => rfl
  | 1, _ => rfl
  | 2, _ => rfl
  | 3, _ => rfl
  | 4, _ => rfl
theorem due_loop (Q : RV → Prop) (E : EZ) (n f k t p m : Nat) (hn : n = 3 ∨ n = 4) (hp : p < 5) (x0 : Option O) (nx : SS → Prop) : ∀ (l : List Cl) (j : Nat) (x6 x7 x8 : Option O), (∀ c ∈ l, c.ok) →
    (∀ i, cfind n k p j l = some i → Q (.d (.tup [.int ((t : Int) + 1), strnD p, .int ((f + i) % n : Nat), .int (m : Nat)]))) → (cfind n k p j l = none → ∀ x6 x7 x8, nx [x0, some (.pure (.int (n : Nat))), some (.pure (.int (f : Nat))), some (.pure (.int (k : Nat))), some (.pure (.int (m : Nat))), some (.pure (.int (rkC t p : Nat))), x6, x7, x8]) →
    zForL (gT 2 (gsCons (gN 6) (gsCons (gN 7) gsNil))) (r_law_due_b1 (fun cls ns es _ => E cls ns es)) nx (retK Q) (enF (fun c : Cl => D.str c.s) j l) [x0, some (.pure (.int (n : Nat))), some (.pure (.int (f : Nat))), some (.pure (.int (k : Nat))), some (.pure (.int (m : Nat))), some (.pure (.int (rkC t p : Nat))), x6, x7, x8]
  | [], j, x6, x7, x8, hv, q1, q2 => q2 rfl x6 x7 x8
  | c :: l, j, x6, x7, x8, hv, q1, q2 => by
    have hc := hv c (by simp)
    have lp := fun x6 x7 x8 => due_loop Q E n f k t p m hn hp x0 nx l (j + 1) x6 x7 x8 (fun c h => hv c (List.mem_cons_of_mem _ h))
    have n0 : (0 : Int) < (n : Nat) := by omega
    show zForL _ _ _ _ (.tup [.int (j : Nat), .str c.s] :: enF (fun c : Cl => D.str c.s) (j + 1) l) _
    cases c with
    | pas => walk_at "zz"; exact lp _ _ _ q1 q2
    | dbl => walk_at "zz"; exact lp _ _ _ q1 q2
    | agn => walk_at "zz"; exact lp _ _ _ q1 q2
    | bid t' p' =>
      have nw := no_word t' p'
      have hc2 : p' < 5 := hc.2
      have r5 : rkC t p % 5 = p := by unfold rkC; omega
      have r5' : rkC t' p' % 5 = p' := by unfold rkC; omega
      have rd : rkC t p / 5 = t := by unfold rkC; omega
      have un : cfind n k p j (.bid t' p' :: l) = if p' = p ∧ ownB n (j % n) (k % n) = true then some j else cfind n k p (j + 1) l := rfl
      walk_at "zz"
      refine And.intro (Sd.mk ⟨rfl, rfl⟩) ?_
      rw [nw]
      walk_at "zz"
      refine ⟨t', p', rfl, hc.1, hc.2, ?_⟩
      walk_at "zz"
      refine ⟨fun h => ?_, fun h => ?_⟩
      · have e1 : p' = p := by have := bT (p := ((rkC t' p' : Nat) : Int) % 5 = ((rkC t p : Nat) : Int) % 5) h; omega
        walk_at "zz"
        refine ⟨n, j % n, k % n, rfl, hn, ?_⟩
        cases eo : ownB n (j % n) (k % n) with
        | true =>
          rw [un, if_pos ⟨e1, eo⟩] at q1
          have q1 := q1 j rfl
          have e3 : (1 : Int) + ((rkC t p : Nat) : Int) / 5 = (t : Int) + 1 := by omega
          walk_at "zz"
          refine ⟨_, strn_at r5, ?_⟩
          walk_at "zz"
          rw [e3]
          exact q1
        | false =>
          rw [un, if_neg fun z => by rw [eo] at z; exact absurd z.2 (by decide)] at q1 q2
          walk_at "zz"
          exact lp _ _ _ q1 q2
      · have e1 : ¬ p' = p := by have := bF (p := ((rkC t' p' : Nat) : Int) % 5 = ((rkC t p : Nat) : Int) % 5) h; omega
        rw [un, if_neg fun z => e1 z.1] at q1 q2
        walk_at "zz"
        exact lp _ _ _ q1 q2
theorem read_law_due (ds : List D) (Q : RV → Prop) (E : EZ) (hs : sp_law_due ds Q E) : r_law_due (fun cls ns es _ => E cls ns es) ⟨fun _ => Q (.d .non), retK Q, fun _ => False, fun _ => False⟩ (args ds 9) := by
  obtain ⟨md, cs, n, f, rfl, hn, V, hl, q⟩ := hs
  have lo := fun k t p => last_ok V (k := k) (t := t) (p := p)
  have la' := fun k t p => last_at (cs := cs) (k := k) (t := t) (p := p)
  have e : enD (csS cs) = enF (fun c : Cl => D.str c.s) 0 cs := enD_map _ cs
  walk_at "zz"
  refine ⟨md, cs, rfl, hl, ?_⟩
  unfold contrD at q
  rcases la : lastC cs with ⟨o, m⟩
  rw [la] at q
  rcases o with _ | ⟨k, t, p⟩
  · walk_at "zz"; exact q
  · have lk := lo k t p (by rw [la])
    have lk2 := la' k t p (by rw [la])
    have lp := due_loop Q E n f k t p m hn lk.2.2 (some (.pure (.lst md (csS cs)))) (fun ss => zRet (zC .non) ⟨fun _ => Q (.d .non), retK Q, fun _ => False, fun _ => False⟩ ss) cs 0 none none none V.ok (fun i h => by simp only [h] at q; exact q) (fun h x6 x7 x8 => by
      simp only [h] at q
      walk_at "zz"
      exact q)
    rw [← e] at lp
    walk_at "zz"
    refine ⟨_, at_csS (k := k) rfl lk2, ?_⟩
    walk_at "zz"
    refine ⟨t, p, rfl, lk.2.1, lk.2.2, ?_⟩
    walk_at "zz"
    exact lp
def sp_law_right : FS := fun ds Q _ => ∃ (n f : Nat) (cs : List Cl), ds = [contrD n f cs, contrD n f cs] ∧ Q (.d (.bl true))
def r_law_right_b1 (Wz : WZ) : ZTS :=
  (zIfS (zT (zBin zIsC (zVar 3) (zC .non))) (zIfS (zT (zBin zIsNotC (zVar 2) (zC .non))) (zRet (zC (.bl false))) zNext) (zIfS (zOr (zNot (zT (zIsi .int (zVar 2)))) (zOr (zT (zIsi .bool (zVar 2))) (zT (zBin zNeC (zVar 2) (zVar 3))))) (zRet (zC (.bl false))) zNext))
def r_law_right (Wz : WZ) : ZTS :=
  (zSeq (zIfS (zT (zBin zIsC (zVar 1) (zC .non))) (zRet (zBin zIsC (zVar 0) (zC .non))) zNext)
  (zSeq (zIfS (zOr (zNot (zT (zIsi .tuple (zVar 0)))) (zT (zBin zNeC (zCB zLenC (zaCons (zVar 0) zaNil)) (zC (.int 4))))) (zRet (zC (.bl false))) zNext)
  (zSeq (zFor (ziZipX (zdCons (zVar 0) (zdCons (zVar 1) zdNil))) (gT 2 (gsCons (gN 2) (gsCons (gN 3) gsNil))) (r_law_right_b1 Wz))
  (zRet (zC (.bl true))))))
theorem right_row (Q : RV → Prop) (E : EZ) (a c d : Int) (p : Nat) (q : Q (.d (.bl true))) : r_law_right (fun cls ns es _ => E cls ns es) ⟨fun _ => Q (.d .non), retK Q, fun _ => False, fun _ => False⟩ (args [.tup [.int a, strnD p, .int c, .int d], .tup [.int a, strnD p, .int c, .int d]] 4) := by
  match p with
  | 0 => walk_at "zz"; exact q
  | 1 => walk_at "zz"; exact q
  | 2 => walk_at "zz"; exact q
  | 3 => walk_at "zz"; exact q
  | p + 4 => walk_at "zz"; exact q
theorem contr_form (n f : Nat) (cs : List Cl) : contrD n f cs = .non ∨ ∃ (a : Int) (p : Nat) (c d : Int), contrD n f cs = .tup [.int a, strnD p, .int c, .int d] := by
  unfold contrD
  rcases lastC cs with ⟨o, m⟩
  rcases o with _ | ⟨k, t, p⟩
  · exact .inl rfl
  · cases h : cfind n k p 0 cs with
    | none => simp only [h]; exact .inl trivial
    | some j => simp only [h]; exact .inr ⟨_, _, _, _, rfl⟩
theorem contr_nb (n f : Nat) (cs : List Cl) : (contrD n f cs).nb = true := by
  rcases contr_form n f cs with e | ⟨a, p, c, d, e⟩
  · rw [e]; rfl
  · rw [e]
    match p with
    | 0 => rfl
    | 1 => rfl
    | 2 => rfl
    | 3 => rfl
    | p + 4 => rfl
theorem read_law_right (ds : List D) (Q : RV → Prop) (E : EZ) (hs : sp_law_right ds Q E) : r_law_right (fun cls ns es _ => E cls ns es) ⟨fun _ => Q (.d .non), retK Q, fun _ => False, fun _ => False⟩ (args ds 4) := by
  obtain ⟨n, f, cs, rfl, q⟩ := hs
  rcases contr_form n f cs with e | ⟨a, p, c, d, e⟩
  · rw [e]; walk_at "zz"; exact q
  · rw [e]; exact right_row Q E _ _ _ p q
theorem Val.take {cs : List Cl} (V : Val cs) (s : Nat) : Val (cs.take s) := ⟨fun c h => V.ok c (List.mem_of_mem_take h), fun pre c post e h => V.db pre c (post ++ cs.drop s) (by rw [← List.cons_append, ← List.append_assoc, ← e, List.take_append_drop]) h⟩
/-- what was heard -/
def heardD (n f : Nat) (cs : List Cl) (S : List Nat) : List D := S.map fun s => .tup [contrD n f (cs.take s), .int (s : Nat)]
theorem heard_grow {n f : Nat} {cs : List Cl} {c : Cl} {S : List Nat} (h : ∀ s ∈ S, s ≤ cs.length) : heardD n f (cs ++ [c]) S = heardD n f cs S :=
  List.map_congr_left fun s hs => by rw [List.take_append_of_le_length (h s hs)]
theorem heard_snoc (n f : Nat) (cs : List Cl) (S : List Nat) : heardD n f cs S ++ [D.tup [contrD n f cs, .int (cs.length : Nat)]] = heardD n f cs (S ++ [cs.length]) := by
  unfold heardD; rw [List.map_append]
  show _ = _ ++ [D.tup [contrD n f (cs.take cs.length), .int (cs.length : Nat)]]
  rw [List.take_length]
theorem cut_csS (cs : List Cl) {s : Nat} (h : s ≤ cs.length) : cutD (csS cs) none (some ((s : Nat) : Int)) = csS (cs.take s) := by
  have lc := csS_len cs
  unfold cutD
  rw [HT.sIx_nat, HT.sIx_none, lc, Nat.min_eq_left h, List.drop_zero, Nat.sub_zero]
  unfold csS
  rw [List.map_take]
def sp_law : FS := fun ds Q _ => ∃ (m : Nat) (ns : List Int), ds = [.lst m (ns.map .int)] ∧ (m = 0 ∨ m = 2) ∧ ns.length ≤ 63 ∧ Q (.d (.bl true))
def r_law_b1 (Wz : WZ) : ZTS :=
  (zSeq (zSet 8 (zMthL [(100, sp_Auction_contract)] a_contract Wz 4 zaNil))
  (zSeq (zIfS (zNot (zT (zCall sp_law_right Wz (zaCons (zVar 8) (zaCons (zCall sp_law_due Wz (zaCons (zVar 5) (zaCons (zVar 1) (zaCons (zVar 2) zaNil)))) zaNil))))) (zRet (zC (.bl false))) zNext)
  (zSeq (zDrop (zMet zAppendC 6 (zdCons (zTup (zdCons (zVar 8) (zdCons (zCB zLenC (zaCons (zVar 5) zaNil)) zdNil))) zdNil)))
  (zSeq (zSet 9 (zCall sp_law_drawn Wz (zaCons (zVar 0) (zaCons (zBin zAddC (zC (.int 3)) (zVar 7)) (zaCons (zVar 5) (zaCons (zVar 3) zaNil))))))
  (zIfS (zT (zCall sp_law_stands Wz (zaCons (zVar 5) (zaCons (zVar 1) (zaCons (zVar 9) zaNil))))) (zSeq (zDrop (zMthM [(c_Auction, sp_Auction_say)] a_say 4 Wz (zdCons (zVar 9) zdNil)))
  (zDrop (zMet zAppendC 5 (zdCons (zVar 9) zdNil)))) zNext)))))
def r_law_b2 (Wz : WZ) : ZTS :=
  (zIfS (zNot (zT (zCall sp_law_right Wz (zaCons (zVar 8) (zaCons (zCall sp_law_due Wz (zaCons (zSl (zVar 5) zoN (zoS (zVar 10))) (zaCons (zVar 1) (zaCons (zVar 2) zaNil)))) zaNil))))) (zRet (zC (.bl false))) zNext)
def r_law_t7 (Wz : WZ) : ZTS :=
  (zSeq (zFor (ziSeq (zVar 6)) (gT 2 (gsCons (gN 8) (gsCons (gN 10) gsNil))) (r_law_b2 Wz))
  (zRet (zCall sp_law_right Wz (zaCons (zMthL [(100, sp_Auction_contract)] a_contract Wz 4 zaNil) (zaCons (zCall sp_law_due Wz (zaCons (zVar 5) (zaCons (zVar 1) (zaCons (zVar 2) zaNil)))) zaNil)))))
def r_law_t6 (Wz : WZ) : ZTS :=
  (zSeq (zFor (ziR1 (zaCons (zC (.int 40)) zaNil)) (gN 7) (r_law_b1 Wz))
  (zTail (r_law_t7 Wz)))
def r_law (Wz : WZ) : ZTS :=
  (zSeq (zSet 1 (zBin zAddC (zC (.int 3)) (zBin zModC (zCall sp_law_cell Wz (zaCons (zVar 0) (zaCons (zC (.int 0)) zaNil))) (zC (.int 2)))))
  (zSeq (zSet 2 (zBin zModC (zCall sp_law_cell Wz (zaCons (zVar 0) (zaCons (zC (.int 1)) zaNil))) (zVar 1)))
  (zSeq (zSet 3 (zLst (zdCons (zBin zModC (zCall sp_law_cell Wz (zaCons (zVar 0) (zaCons (zC (.int 2)) zaNil))) (zC (.int 5))) (zdCons (zBin zModC (zBin zFdivC (zCall sp_law_cell Wz (zaCons (zVar 0) (zaCons (zC (.int 2)) zaNil))) (zC (.int 5))) (zC (.int 5))) zdNil))))
  (zSeq (zSet 4 (zMakeM c_Auction sp_Auction_init [] Wz (zdCons (zVar 1) (zdCons (zVar 2) zdNil))))
  (zSeq (zSet 5 (zLst zdNil))
  (zSeq (zSet 6 (zLst zdNil))
  (zTail (r_law_t6 Wz))))))))
theorem rngN (h : Nat) : rngD 0 ((h : Nat) : Int).toNat = (List.range h).map fun i : Nat => D.int (i : Int) := by
  unfold rngD
  rw [Int.toNat_natCast]
  exact List.map_congr_left fun i _ => by rw [Int.zero_add]
theorem main_loop (Q : RV → Prop) (E : EZ) (m : Nat) (ns : List Int) (hns : (ns.length : Int) ≤ 63) (n f : Nat) (hn : n = 3 ∨ n = 4) (q : Q (.d (.bl true))) (s1 s2 : Int) (nx : SS → Prop) :
    ∀ (l : List Nat) (cs : List Cl) (S : List Nat) (a : Addr) (x7 x8 x9 x10 : Option O), (∀ i ∈ l, i ≤ 40) → Val cs → cs.length + l.length ≤ 40 → S.length + l.length ≤ 40 → (∀ s ∈ S, s ≤ cs.length) →
      (∀ cs S a x7 x8 x9 x10, Val cs → cs.length ≤ 40 → S.length ≤ 40 → (∀ s ∈ S, s ≤ cs.length) → nx [some (.pure (.lst m (ns.map .int))), some (.pure (.int (n : Nat))), some (.pure (.int (f : Nat))), some (.lst [.int s1, .int s2]), some (.ins a c_Auction aNs (aOs n f cs)), some (.lst (csS cs)), some (.lst (heardD n f cs S)), x7, x8, x9, x10]) →
      zForL (gN 7) (r_law_b1 (fun cls ns es _ => E cls ns es)) nx (retK Q) (l.map fun i : Nat => D.int (i : Int)) [some (.pure (.lst m (ns.map .int))), some (.pure (.int (n : Nat))), some (.pure (.int (f : Nat))), some (.lst [.int s1, .int s2]), some (.ins a c_Auction aNs (aOs n f cs)), some (.lst (csS cs)), some (.lst (heardD n f cs S)), x7, x8, x9, x10]
  | [], cs, S, a, x7, x8, x9, x10, hi, V, hl, hS, hs, h => h cs S a x7 x8 x9 x10 V (by rw [List.length_nil] at hl; omega) (by rw [List.length_nil] at hS; omega) hs
  | i :: l, cs, S, a, x7, x8, x9, x10, hi, V, hl, hS, hs, h => by
    have lp := fun cs S a x7 x8 x9 x10 V hl hS hs => main_loop Q E m ns hns n f hn q s1 s2 nx l cs S a x7 x8 x9 x10 (fun i h => hi i (List.mem_cons_of_mem _ h)) V hl hS hs h
    have lc := csS_len cs
    have lh : (heardD n f cs S).length = S.length := List.length_map ..
    have i1 := hi i (by simp)
    have sl := sizeLine_eq
    have nb := contr_nb n f cs
    rw [List.length_cons] at hl hS
    show zForL _ _ _ _ (.int (i : Int) :: l.map fun i : Nat => D.int (i : Int)) _
    walk_at "zz"
    refine ⟨n, f, cs, rfl, hn, V, by omega, ?_⟩
    walk_at "zz"
    refine ⟨1, cs, n, f, rfl, hn, V, by omega, ?_⟩
    walk_at "zz"
    refine ⟨n, f, cs, rfl, ?_⟩
    walk_at "zz"
    rw [lc, heard_snoc]
    have hs1 : ∀ s ∈ S ++ [cs.length], s ≤ cs.length := fun s h => by
      rcases List.mem_append.mp h with h | h
      · exact hs s h
      · rw [List.mem_singleton.mp h]; exact Nat.le_refl _
    have hS1 : (S ++ [cs.length]).length = S.length + 1 := by simp
    walk_at "zz"
    refine ⟨m, ns, _, 1, cs, 1, s1, s2, rfl, hns, by omega, by omega, V, by omega, fun c hc => ?_⟩
    walk_at "zz"
    refine ⟨1, cs, n, c, rfl, hn, V, hc, by omega, ?_⟩
    cases st : standsC n cs c with
    | false =>
      walk_at "zz"
      exact lp cs (S ++ [cs.length]) a _ _ _ _ V (by omega) (by omega) hs1
    | true =>
      have hg := heard_grow (n := n) (f := f) (c := c) hs1
      rw [← hg]
      walk_at "zz"
      refine ⟨n, f, cs, c, rfl, rfl, rfl, hn, V, hc, by omega, st, ?_⟩
      walk_at "zz"
      rw [csS_snoc]
      exact lp (cs ++ [c]) (S ++ [cs.length]) a _ _ _ _ (V.snoc hc st) (by rw [List.length_append]; simp; omega) (by omega) (fun s h => by have := hs1 s h; rw [List.length_append]; omega)
theorem heard_loop (Q : RV → Prop) (E : EZ) (n f : Nat) (hn : n = 3 ∨ n = 4) (cs : List Cl) (V : Val cs) (hl : cs.length ≤ 40) (x0 x3 x4 x6 x7 x9 : Option O) (nx : SS → Prop) :
    ∀ (S : List Nat) (x8 x10 : Option O), (∀ s ∈ S, s ≤ cs.length) → (∀ x8 x10, nx [x0, some (.pure (.int (n : Nat))), some (.pure (.int (f : Nat))), x3, x4, some (.lst (csS cs)), x6, x7, x8, x9, x10]) →
      zForL (gT 2 (gsCons (gN 8) (gsCons (gN 10) gsNil))) (r_law_b2 (fun cls ns es _ => E cls ns es)) nx (retK Q) (heardD n f cs S) [x0, some (.pure (.int (n : Nat))), some (.pure (.int (f : Nat))), x3, x4, some (.lst (csS cs)), x6, x7, x8, x9, x10]
  | [], x8, x10, hs, h => h x8 x10
  | s :: S, x8, x10, hs, h => by
    have lp := fun x8 x10 => heard_loop Q E n f hn cs V hl x0 x3 x4 x6 x7 x9 nx S x8 x10 (fun s h => hs s (List.mem_cons_of_mem _ h)) h
    have h1 := hs s (by simp)
    have cut := cut_csS cs h1
    show zForL _ _ _ _ (.tup [contrD n f (cs.take s), .int (s : Nat)] :: heardD n f cs S) _
    walk_at "zz"
    rw [cut]
    walk_at "zz"
    refine ⟨_, cs.take s, n, f, rfl, hn, V.take s, by rw [List.length_take]; omega, ?_⟩
    walk_at "zz"
    refine ⟨n, f, cs.take s, rfl, ?_⟩
    walk_at "zz"
    exact lp _ _
theorem law_go (Q : RV → Prop) (E : EZ) (m : Nat) (ns : List Int) (hns : (ns.length : Int) ≤ 63) (n f : Nat) (hn : n = 3 ∨ n = 4) (q : Q (.d (.bl true))) (s1 s2 : Int) (a : Addr) :
    r_law_t6 (fun cls ns es _ => E cls ns es) ⟨fun _ => Q (.d .non), retK Q, fun _ => False, fun _ => False⟩ [some (.pure (.lst m (ns.map .int))), some (.pure (.int (n : Nat))), some (.pure (.int (f : Nat))), some (.lst [.int s1, .int s2]), some (.ins a c_Auction aNs (aOs n f [])), some (.lst []), some (.lst []), none, none, none, none] := by
  have e := rngN 40
  have lp := main_loop Q E m ns hns n f hn q s1 s2 (fun ss => zTl (r_law_t7 (fun cls ns es _ => E cls ns es)) ⟨fun _ => Q (.d .non), retK Q, fun _ => False, fun _ => False⟩ ss) (List.range 40) [] [] a none none none none (fun i h => by have := List.mem_range.mp h; omega) .nil (by simp) (by simp) (fun s h => by simp at h) (fun cs S a x7 x8 x9 x10 V hl hS hs => by
    refine ⟨?_⟩
    have lp2 := fun x6 x8 x10 => heard_loop Q E n f hn cs V hl (some (.pure (.lst m (ns.map .int)))) (some (.lst [.int s1, .int s2])) (some (.ins a c_Auction aNs (aOs n f cs))) x6 x7 x9 (fun ss => zRet (zCall sp_law_right (fun cls ns es _ => E cls ns es) (zaCons (zMthL [(100, sp_Auction_contract)] a_contract (fun cls ns es _ => E cls ns es) 4 zaNil) (zaCons (zCall sp_law_due (fun cls ns es _ => E cls ns es) (zaCons (zVar 5) (zaCons (zVar 1) (zaCons (zVar 2) zaNil)))) zaNil))) ⟨fun _ => Q (.d .non), retK Q, fun _ => False, fun _ => False⟩ ss) S x8 x10 hs (fun x8 x10 => by
      have nb := contr_nb n f cs
      walk_at "zz"
      refine ⟨n, f, cs, rfl, hn, V, hl, ?_⟩
      walk_at "zz"
      refine ⟨1, cs, n, f, rfl, hn, V, hl, ?_⟩
      walk_at "zz"
      refine ⟨n, f, cs, rfl, ?_⟩
      walk_at "zz"
      exact q)
    walk_at "zz"
    exact lp2 _ _ _)
  rw [← e] at lp
  exact And.intro (Sd.mk (show -(2 ^ 62) ≤ (40 : Int) ∧ (40 : Int) < 2 ^ 62 from ⟨by decide, by decide⟩)) lp
theorem read_law (ds : List D) (Q : RV → Prop) (E : EZ) (hs : sp_law ds Q E) : r_law (fun cls ns es _ => E cls ns es) ⟨fun _ => Q (.d .non), retK Q, fun _ => False, fun _ => False⟩ (args ds 11) := by
  obtain ⟨m, ns, rfl, hm, hl, q⟩ := hs
  have hl : (ns.length : Int) ≤ 63 := by omega
  walk_at "zz"
  refine ⟨m, ns, 0, rfl, hl, by decide, by decide, fun v v0 v1 => ?_⟩
  walk_at "zz"
  refine ⟨m, ns, 1, rfl, hl, by decide, by decide, fun w w0 w1 => ?_⟩
  obtain ⟨n, en, hn⟩ : ∃ n : Nat, 3 + v % 2 = (n : Nat) ∧ (n = 3 ∨ n = 4) := ⟨(3 + v % 2).toNat, by omega, by omega⟩
  rw [en]
  have n0 : (0 : Int) < (n : Nat) := by omega
  have m1 := Int.emod_nonneg w (show ((n : Nat) : Int) ≠ 0 by omega)
  obtain ⟨f, ef⟩ : ∃ f : Nat, w % (n : Nat) = (f : Nat) := ⟨(w % (n : Nat)).toNat, by omega⟩
  walk_at "zz"
  rw [ef]
  refine ⟨m, ns, 2, rfl, hl, by decide, by decide, fun y y0 y1 => ?_⟩
  walk_at "zz"
  refine ⟨m, ns, 2, rfl, hl, by decide, by decide, fun z z0 z1 => ?_⟩
  walk_at "zz"
  refine ⟨fun a => ⟨n, f, rfl, rfl, rfl, ?_⟩⟩
  walk_at "zz"
  exact ⟨law_go Q E m ns hl n f hn q _ _ a⟩
/-! ## the walk -/
def topS (i : Nat) : Stmt := PySem.Challenge.pw_trickproof_k19_contracts.main.body.getD i (.Pass ⟨0, 0, 0, 0⟩)
abbrev s_law_cell : Stmt := topS 15
abbrev N_law_cell : List Str := ["_law_script", "_law_k", "_law_cell_here"]
theorem sc_law_cell : FnScope N_law_cell ["_law_script", "_law_k"] (defScope s_law_cell) := ⟨rfl, rfl, rfl, by decide +kernel, rfl, by decide +kernel, by decide +kernel⟩
abbrev s_Auction_init : Stmt := inClass (topS 13) 0
abbrev N_Auction_init : List Str := ["self", "seats", "first"]
theorem sc_Auction_init : FnScope N_Auction_init ["self", "seats", "first"] (defScope s_Auction_init) := ⟨rfl, rfl, rfl, by decide +kernel, rfl, by decide +kernel, by decide +kernel⟩
abbrev s_Auction_seat_of : Stmt := inClass (topS 13) 1
abbrev N_Auction_seat_of : List Str := ["self", "number"]
theorem sc_Auction_seat_of : FnScope N_Auction_seat_of ["self", "number"] (defScope s_Auction_seat_of) := ⟨rfl, rfl, rfl, by decide +kernel, rfl, by decide +kernel, by decide +kernel⟩
abbrev s_Auction_standing : Stmt := inClass (topS 13) 5
abbrev N_Auction_standing : List Str := ["self", "found", "number", "call"]
theorem sc_Auction_standing : FnScope N_Auction_standing ["self"] (defScope s_Auction_standing) := ⟨rfl, rfl, rfl, by decide +kernel, rfl, by decide +kernel, by decide +kernel⟩
abbrev s_side_of : Stmt := topS 12
abbrev N_side_of : List Str := ["seats", "seat"]
theorem sc_side_of : FnScope N_side_of ["seats", "seat"] (defScope s_side_of) := ⟨rfl, rfl, rfl, by decide +kernel, rfl, by decide +kernel, by decide +kernel⟩
abbrev s_Auction_contract : Stmt := inClass (topS 13) 8
abbrev N_Auction_contract : List Str := ["self", "last", "side", "number", "call", "seat"]
theorem sc_Auction_contract : FnScope N_Auction_contract ["self"] (defScope s_Auction_contract) := ⟨rfl, rfl, rfl, by decide +kernel, rfl, by decide +kernel, by decide +kernel⟩
abbrev s_law_right : Stmt := topS 24
abbrev N_law_right : List Str := ["_law_found", "_law_due_here", "_law_part", "_law_wanted"]
theorem sc_law_right : FnScope N_law_right ["_law_found", "_law_due_here"] (defScope s_law_right) := ⟨rfl, rfl, rfl, by decide +kernel, rfl, by decide +kernel, by decide +kernel⟩
abbrev s_law_last : Stmt := topS 19
abbrev N_law_last : List Str := ["_law_calls", "_law_at", "_law_times", "_law_k", "_law_call"]
theorem sc_law_last : FnScope N_law_last ["_law_calls"] (defScope s_law_last) := ⟨rfl, rfl, rfl, by decide +kernel, rfl, by decide +kernel, by decide +kernel⟩
abbrev s_law_rank : Stmt := topS 17
abbrev N_law_rank : List Str := ["_law_text_here"]
theorem sc_law_rank : FnScope N_law_rank ["_law_text_here"] (defScope s_law_rank) := ⟨rfl, rfl, rfl, by decide +kernel, rfl, by decide +kernel, by decide +kernel⟩
abbrev s_law_own : Stmt := topS 20
abbrev N_law_own : List Str := ["_law_seats", "_law_one", "_law_other"]
theorem sc_law_own : FnScope N_law_own ["_law_seats", "_law_one", "_law_other"] (defScope s_law_own) := ⟨rfl, rfl, rfl, by decide +kernel, rfl, by decide +kernel, by decide +kernel⟩
abbrev s_law_due : Stmt := topS 23
abbrev N_law_due : List Str := ["_law_calls", "_law_seats", "_law_first", "_law_at", "_law_times", "_law_rank_here", "_law_k", "_law_call", "_law_strain"]
theorem sc_law_due : FnScope N_law_due ["_law_calls", "_law_seats", "_law_first"] (defScope s_law_due) := ⟨rfl, rfl, rfl, by decide +kernel, rfl, by decide +kernel, by decide +kernel⟩
abbrev s_law_text : Stmt := topS 16
abbrev N_law_text : List Str := ["_law_rank_here"]
theorem sc_law_text : FnScope N_law_text ["_law_rank_here"] (defScope s_law_text) := ⟨rfl, rfl, rfl, by decide +kernel, rfl, by decide +kernel, by decide +kernel⟩
abbrev s_law_drawn : Stmt := topS 22
abbrev N_law_drawn : List Str := ["_law_script", "_law_k", "_law_calls", "_law_strains", "_law_cell_here", "_law_at", "_law_times", "_law_low", "_law_way", "_law_rank_here"]
theorem sc_law_drawn : FnScope N_law_drawn ["_law_script", "_law_k", "_law_calls", "_law_strains"] (defScope s_law_drawn) := ⟨rfl, rfl, rfl, by decide +kernel, rfl, by decide +kernel, by decide +kernel⟩
abbrev s_law_over : Stmt := topS 18
abbrev N_law_over : List Str := ["_law_calls", "_law_seats", "_law_tail"]
theorem sc_law_over : FnScope N_law_over ["_law_calls", "_law_seats"] (defScope s_law_over) := ⟨rfl, rfl, rfl, by decide +kernel, rfl, by decide +kernel, by decide +kernel⟩
abbrev s_law_stands : Stmt := topS 21
abbrev N_law_stands : List Str := ["_law_calls", "_law_seats", "_law_call", "_law_at", "_law_times", "_law_own_here"]
theorem sc_law_stands : FnScope N_law_stands ["_law_calls", "_law_seats", "_law_call"] (defScope s_law_stands) := ⟨rfl, rfl, rfl, by decide +kernel, rfl, by decide +kernel, by decide +kernel⟩
abbrev s_read_call : Stmt := topS 8
abbrev N_read_call : List Str := ["text", "strain"]
theorem sc_read_call : FnScope N_read_call ["text"] (defScope s_read_call) := ⟨rfl, rfl, rfl, by decide +kernel, rfl, by decide +kernel, by decide +kernel⟩
abbrev s_Auction_passes : Stmt := inClass (topS 13) 2
abbrev N_Auction_passes : List Str := ["self", "found", "call"]
theorem sc_Auction_passes : FnScope N_Auction_passes ["self"] (defScope s_Auction_passes) := ⟨rfl, rfl, rfl, by decide +kernel, rfl, by decide +kernel, by decide +kernel⟩
abbrev s_Auction_is_done : Stmt := inClass (topS 13) 3
abbrev N_Auction_is_done : List Str := ["self"]
theorem sc_Auction_is_done : FnScope N_Auction_is_done ["self"] (defScope s_Auction_is_done) := ⟨rfl, rfl, rfl, by decide +kernel, rfl, by decide +kernel, by decide +kernel⟩
abbrev s_place_of : Stmt := topS 9
abbrev N_place_of : List Str := ["strain"]
theorem sc_place_of : FnScope N_place_of ["strain"] (defScope s_place_of) := ⟨rfl, rfl, rfl, by decide +kernel, rfl, by decide +kernel, by decide +kernel⟩
abbrev s_above : Stmt := topS 10
abbrev N_above : List Str := ["bid", "other"]
theorem sc_above : FnScope N_above ["bid", "other"] (defScope s_above) := ⟨rfl, rfl, rfl, by decide +kernel, rfl, by decide +kernel, by decide +kernel⟩
abbrev s_Auction_turn : Stmt := inClass (topS 13) 4
abbrev N_Auction_turn : List Str := ["self"]
theorem sc_Auction_turn : FnScope N_Auction_turn ["self"] (defScope s_Auction_turn) := ⟨rfl, rfl, rfl, by decide +kernel, rfl, by decide +kernel, by decide +kernel⟩
abbrev s_Auction_wrong : Stmt := inClass (topS 13) 6
abbrev N_Auction_wrong : List Str := ["self", "call", "last", "own"]
theorem sc_Auction_wrong : FnScope N_Auction_wrong ["self", "call"] (defScope s_Auction_wrong) := ⟨rfl, rfl, rfl, by decide +kernel, rfl, by decide +kernel, by decide +kernel⟩
abbrev s_Auction_say : Stmt := inClass (topS 13) 7
abbrev N_Auction_say : List Str := ["self", "text", "call", "rule"]
theorem sc_Auction_say : FnScope N_Auction_say ["self", "text"] (defScope s_Auction_say) := ⟨rfl, rfl, rfl, by decide +kernel, rfl, by decide +kernel, by decide +kernel⟩
abbrev s_law : Stmt := topS 25
abbrev N_law : List Str := ["_law_script", "_law_seats", "_law_first", "_law_strains", "_law_auction", "_law_calls", "_law_heard", "_law_k", "_law_found", "_law_call", "_law_size"]
theorem sc_law : FnScope N_law ["_law_script"] (defScope s_law) := ⟨rfl, rfl, rfl, by decide +kernel, rfl, by decide +kernel, by decide +kernel⟩
structure AD where
  a_law_cell : Addr
  d_law_cell : FuncData
  a_Auction_init : Addr
  d_Auction_init : FuncData
  a_Auction_seat_of : Addr
  d_Auction_seat_of : FuncData
  a_Auction_standing : Addr
  d_Auction_standing : FuncData
  a_side_of : Addr
  d_side_of : FuncData
  a_Auction_contract : Addr
  d_Auction_contract : FuncData
  a_law_right : Addr
  d_law_right : FuncData
  a_law_last : Addr
  d_law_last : FuncData
  a_law_rank : Addr
  d_law_rank : FuncData
  a_law_own : Addr
  d_law_own : FuncData
  a_law_due : Addr
  d_law_due : FuncData
  a_law_text : Addr
  d_law_text : FuncData
  a_law_drawn : Addr
  d_law_drawn : FuncData
  a_law_over : Addr
  d_law_over : FuncData
  a_law_stands : Addr
  d_law_stands : FuncData
  a_read_call : Addr
  d_read_call : FuncData
  a_Auction_passes : Addr
  d_Auction_passes : FuncData
  a_Auction_is_done : Addr
  d_Auction_is_done : FuncData
  a_place_of : Addr
  d_place_of : FuncData
  a_above : Addr
  d_above : FuncData
  a_Auction_turn : Addr
  d_Auction_turn : FuncData
  a_Auction_wrong : Addr
  d_Auction_wrong : FuncData
  a_Auction_say : Addr
  d_Auction_say : FuncData
  a_law : Addr
  d_law : FuncData
  k_Auction : Addr
structure Txt (K : Frag) (mg : Str → Option Value) (A : AD) : Prop where
  D_law_cell : DefAt K mg "_law_cell" s_law_cell ["_law_script", "_law_k"] A.a_law_cell A.d_law_cell
  D_Auction_init : InitAtI 0 K "__init__" "Auction.__init__" s_Auction_init ["self", "seats", "first"] A.a_Auction_init A.d_Auction_init
  D_Auction_seat_of : MethAt K "seat_of" "Auction.seat_of" s_Auction_seat_of ["self", "number"] A.a_Auction_seat_of A.d_Auction_seat_of
  D_Auction_standing : MethAt K "standing" "Auction.standing" s_Auction_standing ["self"] A.a_Auction_standing A.d_Auction_standing
  D_side_of : DefAt K mg "side_of" s_side_of ["seats", "seat"] A.a_side_of A.d_side_of
  D_Auction_contract : MethAt K "contract" "Auction.contract" s_Auction_contract ["self"] A.a_Auction_contract A.d_Auction_contract
  D_law_right : DefAt K mg "_law_right" s_law_right ["_law_found", "_law_due_here"] A.a_law_right A.d_law_right
  D_law_last : DefAt K mg "_law_last" s_law_last ["_law_calls"] A.a_law_last A.d_law_last
  D_law_rank : DefAt K mg "_law_rank" s_law_rank ["_law_text_here"] A.a_law_rank A.d_law_rank
  D_law_own : DefAt K mg "_law_own" s_law_own ["_law_seats", "_law_one", "_law_other"] A.a_law_own A.d_law_own
  D_law_due : DefAt K mg "_law_due" s_law_due ["_law_calls", "_law_seats", "_law_first"] A.a_law_due A.d_law_due
  D_law_text : DefAt K mg "_law_text" s_law_text ["_law_rank_here"] A.a_law_text A.d_law_text
  D_law_drawn : DefAt K mg "_law_drawn" s_law_drawn ["_law_script", "_law_k", "_law_calls", "_law_strains"] A.a_law_drawn A.d_law_drawn
  D_law_over : DefAt K mg "_law_over" s_law_over ["_law_calls", "_law_seats"] A.a_law_over A.d_law_over
  D_law_stands : DefAt K mg "_law_stands" s_law_stands ["_law_calls", "_law_seats", "_law_call"] A.a_law_stands A.d_law_stands
  D_read_call : DefAt K mg "read_call" s_read_call ["text"] A.a_read_call A.d_read_call
  D_Auction_passes : MethAt K "passes" "Auction.passes" s_Auction_passes ["self"] A.a_Auction_passes A.d_Auction_passes
  D_Auction_is_done : MethAt K "is_done" "Auction.is_done" s_Auction_is_done ["self"] A.a_Auction_is_done A.d_Auction_is_done
  D_place_of : DefAt K mg "place_of" s_place_of ["strain"] A.a_place_of A.d_place_of
  D_above : DefAt K mg "above" s_above ["bid", "other"] A.a_above A.d_above
  D_Auction_turn : MethAt K "turn" "Auction.turn" s_Auction_turn ["self"] A.a_Auction_turn A.d_Auction_turn
  D_Auction_wrong : MethAt K "wrong" "Auction.wrong" s_Auction_wrong ["self", "call"] A.a_Auction_wrong A.d_Auction_wrong
  D_Auction_say : MethAt K "say" "Auction.say" s_Auction_say ["self", "text"] A.a_Auction_say A.d_Auction_say
  D_law : DefAt K mg "law" s_law ["_law_script"] A.a_law A.d_law
  C_Auction : ClsAt K c_Auction A.k_Auction
  cl_Auction : Cls K A.k_Auction
  mg_Auction : mg "Auction" = some (.ref A.k_Auction)
  kc_Auction : PySem.W.keepIn K (.ref A.k_Auction) = true
  E_NoCall : ∃ C, ExAt K mg c_NoCall C
  M_Auction : Mk K A.k_Auction A.a_Auction_init
  me_Auction_seat_of : Meth K A.k_Auction (attN a_seat_of) A.a_Auction_seat_of
  me_Auction_standing : Meth K A.k_Auction (attN a_standing) A.a_Auction_standing
  me_Auction_passes : Meth K A.k_Auction (attN a_passes) A.a_Auction_passes
  me_Auction_is_done : Meth K A.k_Auction (attN a_is_done) A.a_Auction_is_done
  me_Auction_turn : Meth K A.k_Auction (attN a_turn) A.a_Auction_turn
  me_Auction_wrong : Meth K A.k_Auction (attN a_wrong) A.a_Auction_wrong
  me_Auction_contract : Meth K A.k_Auction (attN a_contract) A.a_Auction_contract
  me_Auction_say : Meth K A.k_Auction (attN a_say) A.a_Auction_say
  n_Auction_many_seats : NoAttr K A.k_Auction (attN a_many_seats)
  n_Auction_begins : NoAttr K A.k_Auction (attN a_begins)
  n_Auction_calls : NoAttr K A.k_Auction (attN a_calls)
  q_FIGURES : ConstAt K mg "FIGURES" (.str "12345678")
  q_STRAINS : ConstAt K mg "STRAINS" (.str "abcdn")
  q_WORDS : ConstAt K mg "WORDS" (.tup ((["pass", "double", "again"] : List Str).map D.str))
  x_bool : mg "bool" = none
  x_enumerate : mg "enumerate" = none
  x_int : mg "int" = none
  x_isinstance : mg "isinstance" = none
  x_len : mg "len" = none
  x_min : mg "min" = none
  x_range : mg "range" = none
  x_reversed : mg "reversed" = none
  x_str : mg "str" = none
  x_tuple : mg "tuple" = none
  x_zip : mg "zip" = none
section
variable {P : Program} {w : World} {K : Frag} {mg : Str → Option Value} {base : Heap} {A : AD}
theorem len_law_cell : ∀ ds Q E, sp_law_cell ds Q E → ds.length = ["_law_script", "_law_k"].length := by
  intro ds Q E h
  first | (exact h.elim) | (obtain ⟨rfl, _⟩ := h; rfl; done) | (obtain ⟨_, rfl, _⟩ := h; rfl; done) | (obtain ⟨_, _, rfl, _⟩ := h; rfl; done) | (obtain ⟨_, _, _, rfl, _⟩ := h; rfl; done) | (obtain ⟨_, _, _, _, rfl, _⟩ := h; rfl; done) | (obtain ⟨_, _, _, _, _, rfl, _⟩ := h; rfl; done) | (obtain ⟨_, _, _, _, _, _, rfl, _⟩ := h; rfl; done) | (obtain ⟨_, _, _, _, _, _, _, rfl, _⟩ := h; rfl; done) | (obtain ⟨_, _, _, _, _, _, _, _, rfl, _⟩ := h; rfl; done) | (obtain ⟨_, _, _, _, _, _, _, _, _, rfl, _⟩ := h; rfl; done) | (obtain ⟨_, _, _, _, _, _, _, _, _, _, rfl, _⟩ := h; rfl; done) | (obtain ⟨_, _, _, _, _, _, _, _, _, _, _, rfl, _⟩ := h; rfl; done) | ((rcases h with h | h <;> first | (exact h.elim) | (obtain ⟨rfl, _⟩ := h; rfl; done) | (obtain ⟨_, rfl, _⟩ := h; rfl; done) | (obtain ⟨_, _, rfl, _⟩ := h; rfl; done) | (obtain ⟨_, _, _, rfl, _⟩ := h; rfl; done) | (obtain ⟨_, _, _, _, rfl, _⟩ := h; rfl; done) | (obtain ⟨_, _, _, _, _, rfl, _⟩ := h; rfl; done) | (obtain ⟨_, _, _, _, _, _, rfl, _⟩ := h; rfl; done) | (obtain ⟨_, _, _, _, _, _, _, rfl, _⟩ := h; rfl; done) | (obtain ⟨_, _, _, _, _, _, _, _, rfl, _⟩ := h; rfl; done) | (obtain ⟨_, _, _, _, _, _, _, _, _, rfl, _⟩ := h; rfl; done) | (obtain ⟨_, _, _, _, _, _, _, _, _, _, rfl, _⟩ := h; rfl; done) | (obtain ⟨_, _, _, _, _, _, _, _, _, _, _, rfl, _⟩ := h; rfl; done)); done)
theorem ok_law_cell (T : Txt K mg A) : FnOk P w K mg base (L2.CX P w) 1 A.a_law_cell A.d_law_cell ["_law_script", "_law_k"] (toSp K sp_law_cell) :=
  fn_z (k := 0) T.D_law_cell.F sc_law_cell len_law_cell r_law_cell (fun cdv A_ outer s H E G B Wz C =>
  (zs_cons (s_set (i := 2) C.nd (z_bin oz_add (z_bin oz_mul (z_bin oz_mul (z_var 1) (z_var 1)) z_int) z_int))
  (zs_cons (s_if (t_cmp (oz_gtX C.room.units) (nomark _) (z_callB cz_len (by rfl) T.x_len (by decide +kernel) (za_cons (z_var 0) za_nil)) z_int) (zs_one (s_set (i := 2) C.nd (z_bin oz_add (z_bin oz_mod (z_ix (z_var 0) (z_bin oz_mod (z_var 1) (z_callB cz_len (by rfl) T.x_len (by decide +kernel) (za_cons (z_var 0) za_nil)))) (z_bin oz_pow z_int z_int)) (z_bin oz_mul (z_bin oz_fdiv (z_var 1) (z_callB cz_len (by rfl) T.x_len (by decide +kernel) (za_cons (z_var 0) za_nil))) z_int)))) zs_nil)
  (zs_one (s_ret (z_bin oz_mod (z_bin oz_mul (z_bin oz_mod (z_bin oz_add (z_bin oz_mul (z_var 2) z_int) (z_bin oz_mul (z_var 1) z_int)) z_int) (z_bin oz_add (z_bin oz_mod (z_var 2) z_int) z_int)) z_int)))))) read_law_cell
theorem len_Auction_init : ∀ ns os ds Q E, sp_Auction_init ns os ds Q E → ds.length + 1 = ["self", "seats", "first"].length := by
  intro ns os ds Q E h
  first | (exact h.elim) | (obtain ⟨rfl, _⟩ := h; rfl; done) | (obtain ⟨_, rfl, _⟩ := h; rfl; done) | (obtain ⟨_, _, rfl, _⟩ := h; rfl; done) | (obtain ⟨_, _, _, rfl, _⟩ := h; rfl; done) | (obtain ⟨_, _, _, _, rfl, _⟩ := h; rfl; done) | (obtain ⟨_, _, _, _, _, rfl, _⟩ := h; rfl; done) | (obtain ⟨_, _, _, _, _, _, rfl, _⟩ := h; rfl; done) | (obtain ⟨_, _, _, _, _, _, _, rfl, _⟩ := h; rfl; done) | (obtain ⟨_, _, _, _, _, _, _, _, rfl, _⟩ := h; rfl; done) | (obtain ⟨_, _, _, _, _, _, _, _, _, rfl, _⟩ := h; rfl; done) | (obtain ⟨_, _, _, _, _, _, _, _, _, _, rfl, _⟩ := h; rfl; done) | (obtain ⟨_, _, _, _, _, _, _, _, _, _, _, rfl, _⟩ := h; rfl; done) | ((rcases h with h | h <;> first | (exact h.elim) | (obtain ⟨rfl, _⟩ := h; rfl; done) | (obtain ⟨_, rfl, _⟩ := h; rfl; done) | (obtain ⟨_, _, rfl, _⟩ := h; rfl; done) | (obtain ⟨_, _, _, rfl, _⟩ := h; rfl; done) | (obtain ⟨_, _, _, _, rfl, _⟩ := h; rfl; done) | (obtain ⟨_, _, _, _, _, rfl, _⟩ := h; rfl; done) | (obtain ⟨_, _, _, _, _, _, rfl, _⟩ := h; rfl; done) | (obtain ⟨_, _, _, _, _, _, _, rfl, _⟩ := h; rfl; done) | (obtain ⟨_, _, _, _, _, _, _, _, rfl, _⟩ := h; rfl; done) | (obtain ⟨_, _, _, _, _, _, _, _, _, rfl, _⟩ := h; rfl; done) | (obtain ⟨_, _, _, _, _, _, _, _, _, _, rfl, _⟩ := h; rfl; done) | (obtain ⟨_, _, _, _, _, _, _, _, _, _, _, rfl, _⟩ := h; rfl; done)); done)
theorem ok_Auction_init (T : Txt K mg A) : FnOk P w K mg base (L2.CX P w) 1 A.a_Auction_init A.d_Auction_init ["self", "seats", "first"] (toSpM K c_Auction sp_Auction_init) :=
  fn_zM (k := 0) (c := c_Auction) (fun sp len bd => T.D_Auction_init.F.ok sc_Auction_init len bd) sc_Auction_init len_Auction_init r_Auction_init (fun cdv A_ outer s H E G B Wz C =>
  (zs_cons (s_putX (i := 0) (z_var 1) (.cons T.C_Auction T.cl_Auction T.n_Auction_many_seats (.cons (cls100 T.C_Auction) T.cl_Auction T.n_Auction_many_seats .nil)))
  (zs_cons (s_putX (i := 0) (z_var 2) (.cons T.C_Auction T.cl_Auction T.n_Auction_begins (.cons (cls100 T.C_Auction) T.cl_Auction T.n_Auction_begins .nil)))
  (zs_one (s_putX (i := 0) (z_lst zd_nil) (.cons T.C_Auction T.cl_Auction T.n_Auction_calls (.cons (cls100 T.C_Auction) T.cl_Auction T.n_Auction_calls .nil))))))) read_Auction_init
theorem len_Auction_seat_of : ∀ ds Q E, sp_Auction_seat_of ds Q E → ds.length = ["self", "number"].length := by
  intro ds Q E h
  first | (exact h.elim) | (obtain ⟨rfl, _⟩ := h; rfl; done) | (obtain ⟨_, rfl, _⟩ := h; rfl; done) | (obtain ⟨_, _, rfl, _⟩ := h; rfl; done) | (obtain ⟨_, _, _, rfl, _⟩ := h; rfl; done) | (obtain ⟨_, _, _, _, rfl, _⟩ := h; rfl; done) | (obtain ⟨_, _, _, _, _, rfl, _⟩ := h; rfl; done) | (obtain ⟨_, _, _, _, _, _, rfl, _⟩ := h; rfl; done) | (obtain ⟨_, _, _, _, _, _, _, rfl, _⟩ := h; rfl; done) | (obtain ⟨_, _, _, _, _, _, _, _, rfl, _⟩ := h; rfl; done) | (obtain ⟨_, _, _, _, _, _, _, _, _, rfl, _⟩ := h; rfl; done) | (obtain ⟨_, _, _, _, _, _, _, _, _, _, rfl, _⟩ := h; rfl; done) | (obtain ⟨_, _, _, _, _, _, _, _, _, _, _, rfl, _⟩ := h; rfl; done) | ((rcases h with h | h <;> first | (exact h.elim) | (obtain ⟨rfl, _⟩ := h; rfl; done) | (obtain ⟨_, rfl, _⟩ := h; rfl; done) | (obtain ⟨_, _, rfl, _⟩ := h; rfl; done) | (obtain ⟨_, _, _, rfl, _⟩ := h; rfl; done) | (obtain ⟨_, _, _, _, rfl, _⟩ := h; rfl; done) | (obtain ⟨_, _, _, _, _, rfl, _⟩ := h; rfl; done) | (obtain ⟨_, _, _, _, _, _, rfl, _⟩ := h; rfl; done) | (obtain ⟨_, _, _, _, _, _, _, rfl, _⟩ := h; rfl; done) | (obtain ⟨_, _, _, _, _, _, _, _, rfl, _⟩ := h; rfl; done) | (obtain ⟨_, _, _, _, _, _, _, _, _, rfl, _⟩ := h; rfl; done) | (obtain ⟨_, _, _, _, _, _, _, _, _, _, rfl, _⟩ := h; rfl; done) | (obtain ⟨_, _, _, _, _, _, _, _, _, _, _, rfl, _⟩ := h; rfl; done)); done)
theorem ok_Auction_seat_of (T : Txt K mg A) : FnOk P w K mg base (L2.CX P w) 1 A.a_Auction_seat_of A.d_Auction_seat_of ["self", "number"] (toSp K sp_Auction_seat_of) :=
  fn_z (k := 0) T.D_Auction_seat_of.F sc_Auction_seat_of len_Auction_seat_of r_Auction_seat_of (fun cdv A_ outer s H E G B Wz C =>
  (zs_one (s_ret (z_bin oz_mod (z_bin oz_add (z_fld (z_var 0) (.cons T.C_Auction T.cl_Auction T.n_Auction_begins (.cons (cls100 T.C_Auction) T.cl_Auction T.n_Auction_begins .nil))) (z_var 1)) (z_fld (z_var 0) (.cons T.C_Auction T.cl_Auction T.n_Auction_many_seats (.cons (cls100 T.C_Auction) T.cl_Auction T.n_Auction_many_seats .nil))))))) read_Auction_seat_of
theorem len_Auction_standing : ∀ ds Q E, sp_Auction_standing ds Q E → ds.length = ["self"].length := by
  intro ds Q E h
  first | (exact h.elim) | (obtain ⟨rfl, _⟩ := h; rfl; done) | (obtain ⟨_, rfl, _⟩ := h; rfl; done) | (obtain ⟨_, _, rfl, _⟩ := h; rfl; done) | (obtain ⟨_, _, _, rfl, _⟩ := h; rfl; done) | (obtain ⟨_, _, _, _, rfl, _⟩ := h; rfl; done) | (obtain ⟨_, _, _, _, _, rfl, _⟩ := h; rfl; done) | (obtain ⟨_, _, _, _, _, _, rfl, _⟩ := h; rfl; done) | (obtain ⟨_, _, _, _, _, _, _, rfl, _⟩ := h; rfl; done) | (obtain ⟨_, _, _, _, _, _, _, _, rfl, _⟩ := h; rfl; done) | (obtain ⟨_, _, _, _, _, _, _, _, _, rfl, _⟩ := h; rfl; done) | (obtain ⟨_, _, _, _, _, _, _, _, _, _, rfl, _⟩ := h; rfl; done) | (obtain ⟨_, _, _, _, _, _, _, _, _, _, _, rfl, _⟩ := h; rfl; done) | ((rcases h with h | h <;> first | (exact h.elim) | (obtain ⟨rfl, _⟩ := h; rfl; done) | (obtain ⟨_, rfl, _⟩ := h; rfl; done) | (obtain ⟨_, _, rfl, _⟩ := h; rfl; done) | (obtain ⟨_, _, _, rfl, _⟩ := h; rfl; done) | (obtain ⟨_, _, _, _, rfl, _⟩ := h; rfl; done) | (obtain ⟨_, _, _, _, _, rfl, _⟩ := h; rfl; done) | (obtain ⟨_, _, _, _, _, _, rfl, _⟩ := h; rfl; done) | (obtain ⟨_, _, _, _, _, _, _, rfl, _⟩ := h; rfl; done) | (obtain ⟨_, _, _, _, _, _, _, _, rfl, _⟩ := h; rfl; done) | (obtain ⟨_, _, _, _, _, _, _, _, _, rfl, _⟩ := h; rfl; done) | (obtain ⟨_, _, _, _, _, _, _, _, _, _, rfl, _⟩ := h; rfl; done) | (obtain ⟨_, _, _, _, _, _, _, _, _, _, _, rfl, _⟩ := h; rfl; done)); done)
theorem ok_Auction_standing (T : Txt K mg A) : FnOk P w K mg base (L2.CX P w) 2 A.a_Auction_standing A.d_Auction_standing ["self"] (toSp K sp_Auction_standing) :=
  fn_z (k := 1) T.D_Auction_standing.F sc_Auction_standing len_Auction_standing r_Auction_standing (fun cdv A_ outer s H E G B Wz C =>
  (zs_cons (s_set (i := 1) C.nd z_non)
  (zs_cons (s_for C (zi_enumX T.x_enumerate (zd_cons (z_fld (z_var 0) (.cons T.C_Auction T.cl_Auction T.n_Auction_calls (.cons (cls100 T.C_Auction) T.cl_Auction T.n_Auction_calls .nil))) zd_nil)) (g_tup C.calm (gs_cons (g_name C.nd) (gs_cons (g_name C.nd) gs_nil))) (zs_one (s_if (t_val (z_isi .tuple (z_var 3) (by rfl) T.x_isinstance (by rfl) T.x_tuple (by decide +kernel) (by decide) (by decide))) (zs_one (s_set (i := 1) C.nd (z_tup (zd_cons (z_var 3) (zd_cons (z_mthL (m := a_seat_of) (i := 0) C (.cons (cls100 T.C_Auction) T.cl_Auction T.me_Auction_seat_of (ok_Auction_seat_of T) T.D_Auction_seat_of.b (by decide) .nil) (za_cons (z_var 2) za_nil)) (zd_cons z_int zd_nil)))))) (zs_one (s_if (t_cmp (oz_ne C.room.units) (nomark _) (z_var 3) z_str) (zs_one (s_set (i := 1) C.nd (z_tup (zd_cons (z_ix (z_var 1) z_int) (zd_cons (z_ix (z_var 1) z_int) (zd_cons (z_bin oz_mul z_int (z_ix (z_var 1) z_int)) zd_nil)))))) zs_nil)))))
  (zs_one (s_ret (z_var 1)))))) read_Auction_standing
theorem len_side_of : ∀ ds Q E, sp_side_of ds Q E → ds.length = ["seats", "seat"].length := by
  intro ds Q E h
  first | (exact h.elim) | (obtain ⟨rfl, _⟩ := h; rfl; done) | (obtain ⟨_, rfl, _⟩ := h; rfl; done) | (obtain ⟨_, _, rfl, _⟩ := h; rfl; done) | (obtain ⟨_, _, _, rfl, _⟩ := h; rfl; done) | (obtain ⟨_, _, _, _, rfl, _⟩ := h; rfl; done) | (obtain ⟨_, _, _, _, _, rfl, _⟩ := h; rfl; done) | (obtain ⟨_, _, _, _, _, _, rfl, _⟩ := h; rfl; done) | (obtain ⟨_, _, _, _, _, _, _, rfl, _⟩ := h; rfl; done) | (obtain ⟨_, _, _, _, _, _, _, _, rfl, _⟩ := h; rfl; done) | (obtain ⟨_, _, _, _, _, _, _, _, _, rfl, _⟩ := h; rfl; done) | (obtain ⟨_, _, _, _, _, _, _, _, _, _, rfl, _⟩ := h; rfl; done) | (obtain ⟨_, _, _, _, _, _, _, _, _, _, _, rfl, _⟩ := h; rfl; done) | ((rcases h with h | h <;> first | (exact h.elim) | (obtain ⟨rfl, _⟩ := h; rfl; done) | (obtain ⟨_, rfl, _⟩ := h; rfl; done) | (obtain ⟨_, _, rfl, _⟩ := h; rfl; done) | (obtain ⟨_, _, _, rfl, _⟩ := h; rfl; done) | (obtain ⟨_, _, _, _, rfl, _⟩ := h; rfl; done) | (obtain ⟨_, _, _, _, _, rfl, _⟩ := h; rfl; done) | (obtain ⟨_, _, _, _, _, _, rfl, _⟩ := h; rfl; done) | (obtain ⟨_, _, _, _, _, _, _, rfl, _⟩ := h; rfl; done) | (obtain ⟨_, _, _, _, _, _, _, _, rfl, _⟩ := h; rfl; done) | (obtain ⟨_, _, _, _, _, _, _, _, _, rfl, _⟩ := h; rfl; done) | (obtain ⟨_, _, _, _, _, _, _, _, _, _, rfl, _⟩ := h; rfl; done) | (obtain ⟨_, _, _, _, _, _, _, _, _, _, _, rfl, _⟩ := h; rfl; done)); done)
theorem ok_side_of (T : Txt K mg A) : FnOk P w K mg base (L2.CX P w) 1 A.a_side_of A.d_side_of ["seats", "seat"] (toSp K sp_side_of) :=
  fn_z (k := 0) T.D_side_of.F sc_side_of len_side_of r_side_of (fun cdv A_ outer s H E G B Wz C =>
  (zs_cons (s_if (t_cmp (oz_eq C.room.units) (nomark _) (z_var 0) z_int) (zs_one (s_ret (z_bin oz_mod (z_var 1) z_int))) zs_nil)
  (zs_one (s_ret (z_var 1))))) read_side_of
theorem len_Auction_contract : ∀ ds Q E, sp_Auction_contract ds Q E → ds.length = ["self"].length := by
  intro ds Q E h
  first | (exact h.elim) | (obtain ⟨rfl, _⟩ := h; rfl; done) | (obtain ⟨_, rfl, _⟩ := h; rfl; done) | (obtain ⟨_, _, rfl, _⟩ := h; rfl; done) | (obtain ⟨_, _, _, rfl, _⟩ := h; rfl; done) | (obtain ⟨_, _, _, _, rfl, _⟩ := h; rfl; done) | (obtain ⟨_, _, _, _, _, rfl, _⟩ := h; rfl; done) | (obtain ⟨_, _, _, _, _, _, rfl, _⟩ := h; rfl; done) | (obtain ⟨_, _, _, _, _, _, _, rfl, _⟩ := h; rfl; done) | (obtain ⟨_, _, _, _, _, _, _, _, rfl, _⟩ := h; rfl; done) | (obtain ⟨_, _, _, _, _, _, _, _, _, rfl, _⟩ := h; rfl; done) | (obtain ⟨_, _, _, _, _, _, _, _, _, _, rfl, _⟩ := h; rfl; done) | (obtain ⟨_, _, _, _, _, _, _, _, _, _, _, rfl, _⟩ := h; rfl; done) | ((rcases h with h | h <;> first | (exact h.elim) | (obtain ⟨rfl, _⟩ := h; rfl; done) | (obtain ⟨_, rfl, _⟩ := h; rfl; done) | (obtain ⟨_, _, rfl, _⟩ := h; rfl; done) | (obtain ⟨_, _, _, rfl, _⟩ := h; rfl; done) | (obtain ⟨_, _, _, _, rfl, _⟩ := h; rfl; done) | (obtain ⟨_, _, _, _, _, rfl, _⟩ := h; rfl; done) | (obtain ⟨_, _, _, _, _, _, rfl, _⟩ := h; rfl; done) | (obtain ⟨_, _, _, _, _, _, _, rfl, _⟩ := h; rfl; done) | (obtain ⟨_, _, _, _, _, _, _, _, rfl, _⟩ := h; rfl; done) | (obtain ⟨_, _, _, _, _, _, _, _, _, rfl, _⟩ := h; rfl; done) | (obtain ⟨_, _, _, _, _, _, _, _, _, _, rfl, _⟩ := h; rfl; done) | (obtain ⟨_, _, _, _, _, _, _, _, _, _, _, rfl, _⟩ := h; rfl; done)); done)
theorem ok_Auction_contract (T : Txt K mg A) : FnOk P w K mg base (L2.CX P w) 3 A.a_Auction_contract A.d_Auction_contract ["self"] (toSp K sp_Auction_contract) :=
  fn_z (k := 2) T.D_Auction_contract.F sc_Auction_contract len_Auction_contract r_Auction_contract (fun cdv A_ outer s H E G B Wz C =>
  (zs_cons (s_set (i := 1) C.nd (z_mthL0 (m := a_standing) (i := 0) C (.cons (cls100 T.C_Auction) T.cl_Auction T.me_Auction_standing (ok_Auction_standing T) T.D_Auction_standing.b (by decide) .nil)))
  (zs_cons (s_if (t_cmp oz_is (nomark _) (z_var 1) z_non) (zs_one (s_ret z_non)) zs_nil)
  (zs_cons (s_set (i := 2) C.nd (z_call C (ok_side_of T) (by decide) T.D_side_of.m T.D_side_of.F.kp T.D_side_of.b (za_cons (z_fld (z_var 0) (.cons T.C_Auction T.cl_Auction T.n_Auction_many_seats (.cons (cls100 T.C_Auction) T.cl_Auction T.n_Auction_many_seats .nil))) (za_cons (z_ix (z_var 1) z_int) za_nil))))
  (zs_cons (s_for C (zi_enumX T.x_enumerate (zd_cons (z_fld (z_var 0) (.cons T.C_Auction T.cl_Auction T.n_Auction_calls (.cons (cls100 T.C_Auction) T.cl_Auction T.n_Auction_calls .nil))) zd_nil)) (g_tup C.calm (gs_cons (g_name C.nd) (gs_cons (g_name C.nd) gs_nil))) (zs_cons (s_set (i := 5) C.nd (z_mthL (m := a_seat_of) (i := 0) C (.cons (cls100 T.C_Auction) T.cl_Auction T.me_Auction_seat_of (ok_Auction_seat_of T) T.D_Auction_seat_of.b (by decide) .nil) (za_cons (z_var 3) za_nil)))
  (zs_one (s_if (t_w (w_and (t_val (z_isi .tuple (z_var 4) (by rfl) T.x_isinstance (by rfl) T.x_tuple (by decide +kernel) (by decide) (by decide))) (w_and (t_cmp (oz_eq C.room.units) (nomark _) (z_ix (z_var 4) z_int) (z_ix (z_ix (z_var 1) z_int) z_int)) (w_and1 (t_cmp (oz_eq C.room.units) (nomark _) (z_call C (ok_side_of T) (by decide) T.D_side_of.m T.D_side_of.F.kp T.D_side_of.b (za_cons (z_fld (z_var 0) (.cons T.C_Auction T.cl_Auction T.n_Auction_many_seats (.cons (cls100 T.C_Auction) T.cl_Auction T.n_Auction_many_seats .nil))) (za_cons (z_var 5) za_nil))) (z_var 2)))))) (zs_one (s_ret (z_tup (zd_cons (z_ix (z_ix (z_var 1) z_int) z_int) (zd_cons (z_ix (z_ix (z_var 1) z_int) z_int) (zd_cons (z_var 5) (zd_cons (z_ix (z_var 1) z_int) zd_nil))))))) zs_nil))))
  (zs_one (s_ret z_non))))))) read_Auction_contract
theorem len_law_right : ∀ ds Q E, sp_law_right ds Q E → ds.length = ["_law_found", "_law_due_here"].length := by
  intro ds Q E h
  first | (exact h.elim) | (obtain ⟨rfl, _⟩ := h; rfl; done) | (obtain ⟨_, rfl, _⟩ := h; rfl; done) | (obtain ⟨_, _, rfl, _⟩ := h; rfl; done) | (obtain ⟨_, _, _, rfl, _⟩ := h; rfl; done) | (obtain ⟨_, _, _, _, rfl, _⟩ := h; rfl; done) | (obtain ⟨_, _, _, _, _, rfl, _⟩ := h; rfl; done) | (obtain ⟨_, _, _, _, _, _, rfl, _⟩ := h; rfl; done) | (obtain ⟨_, _, _, _, _, _, _, rfl, _⟩ := h; rfl; done) | (obtain ⟨_, _, _, _, _, _, _, _, rfl, _⟩ := h; rfl; done) | (obtain ⟨_, _, _, _, _, _, _, _, _, rfl, _⟩ := h; rfl; done) | (obtain ⟨_, _, _, _, _, _, _, _, _, _, rfl, _⟩ := h; rfl; done) | (obtain ⟨_, _, _, _, _, _, _, _, _, _, _, rfl, _⟩ := h; rfl; done) | ((rcases h with h | h <;> first | (exact h.elim) | (obtain ⟨rfl, _⟩ := h; rfl; done) | (obtain ⟨_, rfl, _⟩ := h; rfl; done) | (obtain ⟨_, _, rfl, _⟩ := h; rfl; done) | (obtain ⟨_, _, _, rfl, _⟩ := h; rfl; done) | (obtain ⟨_, _, _, _, rfl, _⟩ := h; rfl; done) | (obtain ⟨_, _, _, _, _, rfl, _⟩ := h; rfl; done) | (obtain ⟨_, _, _, _, _, _, rfl, _⟩ := h; rfl; done) | (obtain ⟨_, _, _, _, _, _, _, rfl, _⟩ := h; rfl; done) | (obtain ⟨_, _, _, _, _, _, _, _, rfl, _⟩ := h; rfl; done) | (obtain ⟨_, _, _, _, _, _, _, _, _, rfl, _⟩ := h; rfl; done) | (obtain ⟨_, _, _, _, _, _, _, _, _, _, rfl, _⟩ := h; rfl; done) | (obtain ⟨_, _, _, _, _, _, _, _, _, _, _, rfl, _⟩ := h; rfl; done)); done)
theorem ok_law_right (T : Txt K mg A) : FnOk P w K mg base (L2.CX P w) 1 A.a_law_right A.d_law_right ["_law_found", "_law_due_here"] (toSp K sp_law_right) :=
  fn_z (k := 0) T.D_law_right.F sc_law_right len_law_right r_law_right (fun cdv A_ outer s H E G B Wz C =>
  (zs_cons (s_if (t_cmp oz_is (nomark _) (z_var 1) z_non) (zs_one (s_ret (z_cmp oz_is (nomark _) (z_var 0) z_non))) zs_nil)
  (zs_cons (s_if (t_w (w_or (t_not (t_val (z_isi .tuple (z_var 0) (by rfl) T.x_isinstance (by rfl) T.x_tuple (by decide +kernel) (by decide) (by decide)))) (w_or1 (t_cmp (oz_ne C.room.units) (nomark _) (z_callB cz_len (by rfl) T.x_len (by decide +kernel) (za_cons (z_var 0) za_nil)) z_int)))) (zs_one (s_ret z_bl)) zs_nil)
  (zs_cons (s_for C (zi_zipX T.x_zip (zd_cons (z_var 0) (zd_cons (z_var 1) zd_nil))) (g_tup C.calm (gs_cons (g_name C.nd) (gs_cons (g_name C.nd) gs_nil))) (zs_one (s_if (t_cmp oz_is (nomark _) (z_var 3) z_non) (zs_one (s_if (t_cmp oz_isnot (nomark _) (z_var 2) z_non) (zs_one (s_ret z_bl)) zs_nil)) (zs_one (s_if (t_w (w_or (t_not (t_val (z_isi .int (z_var 2) (by rfl) T.x_isinstance (by rfl) T.x_int (by decide +kernel) (by decide) (by decide)))) (w_or (t_val (z_isi .bool (z_var 2) (by rfl) T.x_isinstance (by rfl) T.x_bool (by decide +kernel) (by decide) (by decide))) (w_or1 (t_cmp (oz_ne C.room.units) (nomark _) (z_var 2) (z_var 3)))))) (zs_one (s_ret z_bl)) zs_nil)))))
  (zs_one (s_ret z_bl)))))) read_law_right
theorem len_law_last : ∀ ds Q E, sp_law_last ds Q E → ds.length = ["_law_calls"].length := by
  intro ds Q E h
  first | (exact h.elim) | (obtain ⟨rfl, _⟩ := h; rfl; done) | (obtain ⟨_, rfl, _⟩ := h; rfl; done) | (obtain ⟨_, _, rfl, _⟩ := h; rfl; done) | (obtain ⟨_, _, _, rfl, _⟩ := h; rfl; done) | (obtain ⟨_, _, _, _, rfl, _⟩ := h; rfl; done) | (obtain ⟨_, _, _, _, _, rfl, _⟩ := h; rfl; done) | (obtain ⟨_, _, _, _, _, _, rfl, _⟩ := h; rfl; done) | (obtain ⟨_, _, _, _, _, _, _, rfl, _⟩ := h; rfl; done) | (obtain ⟨_, _, _, _, _, _, _, _, rfl, _⟩ := h; rfl; done) | (obtain ⟨_, _, _, _, _, _, _, _, _, rfl, _⟩ := h; rfl; done) | (obtain ⟨_, _, _, _, _, _, _, _, _, _, rfl, _⟩ := h; rfl; done) | (obtain ⟨_, _, _, _, _, _, _, _, _, _, _, rfl, _⟩ := h; rfl; done) | ((rcases h with h | h <;> first | (exact h.elim) | (obtain ⟨rfl, _⟩ := h; rfl; done) | (obtain ⟨_, rfl, _⟩ := h; rfl; done) | (obtain ⟨_, _, rfl, _⟩ := h; rfl; done) | (obtain ⟨_, _, _, rfl, _⟩ := h; rfl; done) | (obtain ⟨_, _, _, _, rfl, _⟩ := h; rfl; done) | (obtain ⟨_, _, _, _, _, rfl, _⟩ := h; rfl; done) | (obtain ⟨_, _, _, _, _, _, rfl, _⟩ := h; rfl; done) | (obtain ⟨_, _, _, _, _, _, _, rfl, _⟩ := h; rfl; done) | (obtain ⟨_, _, _, _, _, _, _, _, rfl, _⟩ := h; rfl; done) | (obtain ⟨_, _, _, _, _, _, _, _, _, rfl, _⟩ := h; rfl; done) | (obtain ⟨_, _, _, _, _, _, _, _, _, _, rfl, _⟩ := h; rfl; done) | (obtain ⟨_, _, _, _, _, _, _, _, _, _, _, rfl, _⟩ := h; rfl; done)); done)
theorem ok_law_last (T : Txt K mg A) : FnOk P w K mg base (L2.CX P w) 1 A.a_law_last A.d_law_last ["_law_calls"] (toSp K sp_law_last) :=
  fn_z (k := 0) T.D_law_last.F sc_law_last len_law_last r_law_last (fun cdv A_ outer s H E G B Wz C =>
  (zs_cons (s_set (i := 1) C.nd z_non)
  (zs_cons (s_set (i := 2) C.nd z_int)
  (zs_cons (s_for C (zi_enumX T.x_enumerate (zd_cons (z_var 0) zd_nil)) (g_tup C.calm (gs_cons (g_name C.nd) (gs_cons (g_name C.nd) gs_nil))) (zs_one (s_if (t_cmp oz_in rfl (z_var 4) (z_tup (zd_cons z_str (zd_cons z_str zd_nil)))) (zs_one (s_set (i := 2) C.nd (z_bin oz_mul z_int (z_var 2)))) (zs_one (s_if (t_cmp (oz_ne C.room.units) (nomark _) (z_var 4) z_str) (zs_cons (s_set (i := 1) C.nd (z_var 3))
  (zs_one (s_set (i := 2) C.nd z_int))) zs_nil)))))
  (zs_one (s_ret (z_tup (zd_cons (z_var 1) (zd_cons (z_var 2) zd_nil))))))))) read_law_last
theorem len_law_rank : ∀ ds Q E, sp_law_rank ds Q E → ds.length = ["_law_text_here"].length := by
  intro ds Q E h
  first | (exact h.elim) | (obtain ⟨rfl, _⟩ := h; rfl; done) | (obtain ⟨_, rfl, _⟩ := h; rfl; done) | (obtain ⟨_, _, rfl, _⟩ := h; rfl; done) | (obtain ⟨_, _, _, rfl, _⟩ := h; rfl; done) | (obtain ⟨_, _, _, _, rfl, _⟩ := h; rfl; done) | (obtain ⟨_, _, _, _, _, rfl, _⟩ := h; rfl; done) | (obtain ⟨_, _, _, _, _, _, rfl, _⟩ := h; rfl; done) | (obtain ⟨_, _, _, _, _, _, _, rfl, _⟩ := h; rfl; done) | (obtain ⟨_, _, _, _, _, _, _, _, rfl, _⟩ := h; rfl; done) | (obtain ⟨_, _, _, _, _, _, _, _, _, rfl, _⟩ := h; rfl; done) | (obtain ⟨_, _, _, _, _, _, _, _, _, _, rfl, _⟩ := h; rfl; done) | (obtain ⟨_, _, _, _, _, _, _, _, _, _, _, rfl, _⟩ := h; rfl; done) | ((rcases h with h | h <;> first | (exact h.elim) | (obtain ⟨rfl, _⟩ := h; rfl; done) | (obtain ⟨_, rfl, _⟩ := h; rfl; done) | (obtain ⟨_, _, rfl, _⟩ := h; rfl; done) | (obtain ⟨_, _, _, rfl, _⟩ := h; rfl; done) | (obtain ⟨_, _, _, _, rfl, _⟩ := h; rfl; done) | (obtain ⟨_, _, _, _, _, rfl, _⟩ := h; rfl; done) | (obtain ⟨_, _, _, _, _, _, rfl, _⟩ := h; rfl; done) | (obtain ⟨_, _, _, _, _, _, _, rfl, _⟩ := h; rfl; done) | (obtain ⟨_, _, _, _, _, _, _, _, rfl, _⟩ := h; rfl; done) | (obtain ⟨_, _, _, _, _, _, _, _, _, rfl, _⟩ := h; rfl; done) | (obtain ⟨_, _, _, _, _, _, _, _, _, _, rfl, _⟩ := h; rfl; done) | (obtain ⟨_, _, _, _, _, _, _, _, _, _, _, rfl, _⟩ := h; rfl; done)); done)
theorem ok_law_rank (T : Txt K mg A) : FnOk P w K mg base (L2.CX P w) 1 A.a_law_rank A.d_law_rank ["_law_text_here"] (toSp K sp_law_rank) :=
  fn_z (k := 0) T.D_law_rank.F sc_law_rank len_law_rank r_law_rank (fun cdv A_ outer s H E G B Wz C =>
  (zs_one (s_ret (z_bin oz_add (z_bin oz_mul z_int (z_mq 1 mq_sindex PySem.F.plainAttrs_str PySem.F.slot_str_index PySem.F.type_str_index z_str (za_cons (z_ix (z_var 0) z_int) za_nil))) (z_mq 1 mq_sindex PySem.F.plainAttrs_str PySem.F.slot_str_index PySem.F.type_str_index z_str (za_cons (z_ix (z_var 0) z_int) za_nil)))))) read_law_rank
theorem len_law_own : ∀ ds Q E, sp_law_own ds Q E → ds.length = ["_law_seats", "_law_one", "_law_other"].length := by
  intro ds Q E h
  first | (exact h.elim) | (obtain ⟨rfl, _⟩ := h; rfl; done) | (obtain ⟨_, rfl, _⟩ := h; rfl; done) | (obtain ⟨_, _, rfl, _⟩ := h; rfl; done) | (obtain ⟨_, _, _, rfl, _⟩ := h; rfl; done) | (obtain ⟨_, _, _, _, rfl, _⟩ := h; rfl; done) | (obtain ⟨_, _, _, _, _, rfl, _⟩ := h; rfl; done) | (obtain ⟨_, _, _, _, _, _, rfl, _⟩ := h; rfl; done) | (obtain ⟨_, _, _, _, _, _, _, rfl, _⟩ := h; rfl; done) | (obtain ⟨_, _, _, _, _, _, _, _, rfl, _⟩ := h; rfl; done) | (obtain ⟨_, _, _, _, _, _, _, _, _, rfl, _⟩ := h; rfl; done) | (obtain ⟨_, _, _, _, _, _, _, _, _, _, rfl, _⟩ := h; rfl; done) | (obtain ⟨_, _, _, _, _, _, _, _, _, _, _, rfl, _⟩ := h; rfl; done) | ((rcases h with h | h <;> first | (exact h.elim) | (obtain ⟨rfl, _⟩ := h; rfl; done) | (obtain ⟨_, rfl, _⟩ := h; rfl; done) | (obtain ⟨_, _, rfl, _⟩ := h; rfl; done) | (obtain ⟨_, _, _, rfl, _⟩ := h; rfl; done) | (obtain ⟨_, _, _, _, rfl, _⟩ := h; rfl; done) | (obtain ⟨_, _, _, _, _, rfl, _⟩ := h; rfl; done) | (obtain ⟨_, _, _, _, _, _, rfl, _⟩ := h; rfl; done) | (obtain ⟨_, _, _, _, _, _, _, rfl, _⟩ := h; rfl; done) | (obtain ⟨_, _, _, _, _, _, _, _, rfl, _⟩ := h; rfl; done) | (obtain ⟨_, _, _, _, _, _, _, _, _, rfl, _⟩ := h; rfl; done) | (obtain ⟨_, _, _, _, _, _, _, _, _, _, rfl, _⟩ := h; rfl; done) | (obtain ⟨_, _, _, _, _, _, _, _, _, _, _, rfl, _⟩ := h; rfl; done)); done)
theorem ok_law_own (T : Txt K mg A) : FnOk P w K mg base (L2.CX P w) 1 A.a_law_own A.d_law_own ["_law_seats", "_law_one", "_law_other"] (toSp K sp_law_own) :=
  fn_z (k := 0) T.D_law_own.F sc_law_own len_law_own r_law_own (fun cdv A_ outer s H E G B Wz C =>
  (zs_one (s_ret (z_or (z_cmp (oz_eq C.room.units) (nomark _) (z_var 1) (z_var 2)) (z_one (z_and (z_cmp (oz_eq C.room.units) (nomark _) (z_var 0) z_int) (z_one (z_cmp (oz_eq C.room.units) (nomark _) (z_bin oz_mod (z_var 1) z_int) (z_bin oz_mod (z_var 2) z_int))))))))) read_law_own
theorem len_law_due : ∀ ds Q E, sp_law_due ds Q E → ds.length = ["_law_calls", "_law_seats", "_law_first"].length := by
  intro ds Q E h
  first | (exact h.elim) | (obtain ⟨rfl, _⟩ := h; rfl; done) | (obtain ⟨_, rfl, _⟩ := h; rfl; done) | (obtain ⟨_, _, rfl, _⟩ := h; rfl; done) | (obtain ⟨_, _, _, rfl, _⟩ := h; rfl; done) | (obtain ⟨_, _, _, _, rfl, _⟩ := h; rfl; done) | (obtain ⟨_, _, _, _, _, rfl, _⟩ := h; rfl; done) | (obtain ⟨_, _, _, _, _, _, rfl, _⟩ := h; rfl; done) | (obtain ⟨_, _, _, _, _, _, _, rfl, _⟩ := h; rfl; done) | (obtain ⟨_, _, _, _, _, _, _, _, rfl, _⟩ := h; rfl; done) | (obtain ⟨_, _, _, _, _, _, _, _, _, rfl, _⟩ := h; rfl; done) | (obtain ⟨_, _, _, _, _, _, _, _, _, _, rfl, _⟩ := h; rfl; done) | (obtain ⟨_, _, _, _, _, _, _, _, _, _, _, rfl, _⟩ := h; rfl; done) | ((rcases h with h | h <;> first | (exact h.elim) | (obtain ⟨rfl, _⟩ := h; rfl; done) | (obtain ⟨_, rfl, _⟩ := h; rfl; done) | (obtain ⟨_, _, rfl, _⟩ := h; rfl; done) | (obtain ⟨_, _, _, rfl, _⟩ := h; rfl; done) | (obtain ⟨_, _, _, _, rfl, _⟩ := h; rfl; done) | (obtain ⟨_, _, _, _, _, rfl, _⟩ := h; rfl; done) | (obtain ⟨_, _, _, _, _, _, rfl, _⟩ := h; rfl; done) | (obtain ⟨_, _, _, _, _, _, _, rfl, _⟩ := h; rfl; done) | (obtain ⟨_, _, _, _, _, _, _, _, rfl, _⟩ := h; rfl; done) | (obtain ⟨_, _, _, _, _, _, _, _, _, rfl, _⟩ := h; rfl; done) | (obtain ⟨_, _, _, _, _, _, _, _, _, _, rfl, _⟩ := h; rfl; done) | (obtain ⟨_, _, _, _, _, _, _, _, _, _, _, rfl, _⟩ := h; rfl; done)); done)
theorem ok_law_due (T : Txt K mg A) : FnOk P w K mg base (L2.CX P w) 2 A.a_law_due A.d_law_due ["_law_calls", "_law_seats", "_law_first"] (toSp K sp_law_due) :=
  fn_z (k := 1) T.D_law_due.F sc_law_due len_law_due r_law_due (fun cdv A_ outer s H E G B Wz C =>
  (zs_cons (s_asg (z_call C (ok_law_last T) (by decide) T.D_law_last.m T.D_law_last.F.kp T.D_law_last.b (za_cons (z_var 0) za_nil)) (g_tup C.calm (gs_cons (g_name C.nd) (gs_cons (g_name C.nd) gs_nil))))
  (zs_cons (s_if (t_cmp oz_is (nomark _) (z_var 3) z_non) (zs_one (s_ret z_non)) zs_nil)
  (zs_cons (s_set (i := 5) C.nd (z_call C (ok_law_rank T) (by decide) T.D_law_rank.m T.D_law_rank.F.kp T.D_law_rank.b (za_cons (z_ix (z_var 0) (z_var 3)) za_nil)))
  (zs_cons (s_for C (zi_enumX T.x_enumerate (zd_cons (z_var 0) zd_nil)) (g_tup C.calm (gs_cons (g_name C.nd) (gs_cons (g_name C.nd) gs_nil))) (zs_one (s_if (t_w (w_and (t_cmp oz_notin rfl (z_var 7) (z_tup (zd_cons z_str (zd_cons z_str (zd_cons z_str zd_nil))))) (w_and1 (t_cmp (oz_eq C.room.units) (nomark _) (z_bin oz_mod (z_call C (ok_law_rank T) (by decide) T.D_law_rank.m T.D_law_rank.F.kp T.D_law_rank.b (za_cons (z_var 7) za_nil)) z_int) (z_bin oz_mod (z_var 5) z_int))))) (zs_one (s_if (t_val (z_call C (ok_law_own T) (by decide) T.D_law_own.m T.D_law_own.F.kp T.D_law_own.b (za_cons (z_var 1) (za_cons (z_bin oz_mod (z_var 6) (z_var 1)) (za_cons (z_bin oz_mod (z_var 3) (z_var 1)) za_nil))))) (zs_cons (s_set (i := 8) C.nd (z_ix (z_lst (zd_cons z_int (zd_cons z_int (zd_cons z_int (zd_cons z_int (zd_cons z_non zd_nil)))))) (z_bin oz_mod (z_var 5) z_int)))
  (zs_one (s_ret (z_tup (zd_cons (z_bin oz_add z_int (z_bin oz_fdiv (z_var 5) z_int)) (zd_cons (z_var 8) (zd_cons (z_bin oz_mod (z_bin oz_add (z_var 2) (z_var 6)) (z_var 1)) (zd_cons (z_var 4) zd_nil)))))))) zs_nil)) zs_nil)))
  (zs_one (s_ret z_non))))))) read_law_due
theorem len_law_text : ∀ ds Q E, sp_law_text ds Q E → ds.length = ["_law_rank_here"].length := by
  intro ds Q E h
  first | (exact h.elim) | (obtain ⟨rfl, _⟩ := h; rfl; done) | (obtain ⟨_, rfl, _⟩ := h; rfl; done) | (obtain ⟨_, _, rfl, _⟩ := h; rfl; done) | (obtain ⟨_, _, _, rfl, _⟩ := h; rfl; done) | (obtain ⟨_, _, _, _, rfl, _⟩ := h; rfl; done) | (obtain ⟨_, _, _, _, _, rfl, _⟩ := h; rfl; done) | (obtain ⟨_, _, _, _, _, _, rfl, _⟩ := h; rfl; done) | (obtain ⟨_, _, _, _, _, _, _, rfl, _⟩ := h; rfl; done) | (obtain ⟨_, _, _, _, _, _, _, _, rfl, _⟩ := h; rfl; done) | (obtain ⟨_, _, _, _, _, _, _, _, _, rfl, _⟩ := h; rfl; done) | (obtain ⟨_, _, _, _, _, _, _, _, _, _, rfl, _⟩ := h; rfl; done) | (obtain ⟨_, _, _, _, _, _, _, _, _, _, _, rfl, _⟩ := h; rfl; done) | ((rcases h with h | h <;> first | (exact h.elim) | (obtain ⟨rfl, _⟩ := h; rfl; done) | (obtain ⟨_, rfl, _⟩ := h; rfl; done) | (obtain ⟨_, _, rfl, _⟩ := h; rfl; done) | (obtain ⟨_, _, _, rfl, _⟩ := h; rfl; done) | (obtain ⟨_, _, _, _, rfl, _⟩ := h; rfl; done) | (obtain ⟨_, _, _, _, _, rfl, _⟩ := h; rfl; done) | (obtain ⟨_, _, _, _, _, _, rfl, _⟩ := h; rfl; done) | (obtain ⟨_, _, _, _, _, _, _, rfl, _⟩ := h; rfl; done) | (obtain ⟨_, _, _, _, _, _, _, _, rfl, _⟩ := h; rfl; done) | (obtain ⟨_, _, _, _, _, _, _, _, _, rfl, _⟩ := h; rfl; done) | (obtain ⟨_, _, _, _, _, _, _, _, _, _, rfl, _⟩ := h; rfl; done) | (obtain ⟨_, _, _, _, _, _, _, _, _, _, _, rfl, _⟩ := h; rfl; done)); done)
theorem ok_law_text (T : Txt K mg A) : FnOk P w K mg base (L2.CX P w) 1 A.a_law_text A.d_law_text ["_law_rank_here"] (toSp K sp_law_text) :=
  fn_z (k := 0) T.D_law_text.F sc_law_text len_law_text r_law_text (fun cdv A_ outer s H E G B Wz C =>
  (zs_one (s_ret (z_bin oz_add (z_ix z_str (z_bin oz_fdiv (z_var 0) z_int)) (z_ix z_str (z_bin oz_mod (z_var 0) z_int)))))) read_law_text
theorem len_law_drawn : ∀ ds Q E, sp_law_drawn ds Q E → ds.length = ["_law_script", "_law_k", "_law_calls", "_law_strains"].length := by
  intro ds Q E h
  first | (exact h.elim) | (obtain ⟨rfl, _⟩ := h; rfl; done) | (obtain ⟨_, rfl, _⟩ := h; rfl; done) | (obtain ⟨_, _, rfl, _⟩ := h; rfl; done) | (obtain ⟨_, _, _, rfl, _⟩ := h; rfl; done) | (obtain ⟨_, _, _, _, rfl, _⟩ := h; rfl; done) | (obtain ⟨_, _, _, _, _, rfl, _⟩ := h; rfl; done) | (obtain ⟨_, _, _, _, _, _, rfl, _⟩ := h; rfl; done) | (obtain ⟨_, _, _, _, _, _, _, rfl, _⟩ := h; rfl; done) | (obtain ⟨_, _, _, _, _, _, _, _, rfl, _⟩ := h; rfl; done) | (obtain ⟨_, _, _, _, _, _, _, _, _, rfl, _⟩ := h; rfl; done) | (obtain ⟨_, _, _, _, _, _, _, _, _, _, rfl, _⟩ := h; rfl; done) | (obtain ⟨_, _, _, _, _, _, _, _, _, _, _, rfl, _⟩ := h; rfl; done) | ((rcases h with h | h <;> first | (exact h.elim) | (obtain ⟨rfl, _⟩ := h; rfl; done) | (obtain ⟨_, rfl, _⟩ := h; rfl; done) | (obtain ⟨_, _, rfl, _⟩ := h; rfl; done) | (obtain ⟨_, _, _, rfl, _⟩ := h; rfl; done) | (obtain ⟨_, _, _, _, rfl, _⟩ := h; rfl; done) | (obtain ⟨_, _, _, _, _, rfl, _⟩ := h; rfl; done) | (obtain ⟨_, _, _, _, _, _, rfl, _⟩ := h; rfl; done) | (obtain ⟨_, _, _, _, _, _, _, rfl, _⟩ := h; rfl; done) | (obtain ⟨_, _, _, _, _, _, _, _, rfl, _⟩ := h; rfl; done) | (obtain ⟨_, _, _, _, _, _, _, _, _, rfl, _⟩ := h; rfl; done) | (obtain ⟨_, _, _, _, _, _, _, _, _, _, rfl, _⟩ := h; rfl; done) | (obtain ⟨_, _, _, _, _, _, _, _, _, _, _, rfl, _⟩ := h; rfl; done)); done)
theorem ok_law_drawn (T : Txt K mg A) : FnOk P w K mg base (L2.CX P w) 2 A.a_law_drawn A.d_law_drawn ["_law_script", "_law_k", "_law_calls", "_law_strains"] (toSp K sp_law_drawn) :=
  fn_z (k := 1) T.D_law_drawn.F sc_law_drawn len_law_drawn r_law_drawn (fun cdv A_ outer s H E G B Wz C =>
  (zs_cons (s_set (i := 4) C.nd (z_call C (ok_law_cell T) (by decide) T.D_law_cell.m T.D_law_cell.F.kp T.D_law_cell.b (za_cons (z_var 0) (za_cons (z_var 1) za_nil))))
  (zs_cons (s_asg (z_call C (ok_law_last T) (by decide) T.D_law_last.m T.D_law_last.F.kp T.D_law_last.b (za_cons (z_var 2) za_nil)) (g_tup C.calm (gs_cons (g_name C.nd) (gs_cons (g_name C.nd) gs_nil))))
  (zs_cons (s_set (i := 7) C.nd (z_neg z_int))
  (zs_cons (s_if (t_cmp oz_isnot (nomark _) (z_var 5) z_non) (zs_one (s_set (i := 7) C.nd (z_call C (ok_law_rank T) (by decide) T.D_law_rank.m T.D_law_rank.F.kp T.D_law_rank.b (za_cons (z_ix (z_var 2) (z_var 5)) za_nil)))) zs_nil)
  (zs_cons (s_set (i := 8) C.nd (z_bin oz_mod (z_var 4) z_int))
  (zs_tail (zs_cons (s_if (t_cmp (oz_ltX C.room.units) (nomark _) (z_var 8) z_int) (zs_one (s_ret (z_ix (z_lst (zd_cons z_str (zd_cons z_str (zd_cons z_str (zd_cons z_str (zd_cons z_str (zd_cons z_str zd_nil))))))) (z_var 8)))) zs_nil)
  (zs_cons (s_set (i := 9) C.nd (z_bin oz_add (z_var 7) z_int))
  (zs_cons (s_while C (t_w (w_and (t_cmp (oz_ltX C.room.units) (nomark _) (z_var 9) z_int) (w_and (t_cmp (oz_ltX C.room.units) (nomark _) (z_var 8) z_int) (w_and1 (t_cmp oz_notin rfl (z_bin oz_mod (z_var 9) z_int) (z_var 3)))))) (zs_one (s_set (i := 9) C.nd (z_bin oz_add (z_var 9) z_int))))
  (zs_one (s_ret (z_call C (ok_law_text T) (by decide) T.D_law_text.m T.D_law_text.F.kp T.D_law_text.b (za_cons (z_callB (cz_min C.calm) (by rfl) T.x_min (by decide +kernel) (za_cons z_int (za_cons (z_bin oz_add (z_var 9) (z_bin oz_mul z_int (z_bin oz_fdiv (z_bin oz_mod (z_bin oz_fdiv (z_var 4) z_int) z_int) z_int))) za_nil))) za_nil)))))))))))))) read_law_drawn
theorem len_law_over : ∀ ds Q E, sp_law_over ds Q E → ds.length = ["_law_calls", "_law_seats"].length := by
  intro ds Q E h
  first | (exact h.elim) | (obtain ⟨rfl, _⟩ := h; rfl; done) | (obtain ⟨_, rfl, _⟩ := h; rfl; done) | (obtain ⟨_, _, rfl, _⟩ := h; rfl; done) | (obtain ⟨_, _, _, rfl, _⟩ := h; rfl; done) | (obtain ⟨_, _, _, _, rfl, _⟩ := h; rfl; done) | (obtain ⟨_, _, _, _, _, rfl, _⟩ := h; rfl; done) | (obtain ⟨_, _, _, _, _, _, rfl, _⟩ := h; rfl; done) | (obtain ⟨_, _, _, _, _, _, _, rfl, _⟩ := h; rfl; done) | (obtain ⟨_, _, _, _, _, _, _, _, rfl, _⟩ := h; rfl; done) | (obtain ⟨_, _, _, _, _, _, _, _, _, rfl, _⟩ := h; rfl; done) | (obtain ⟨_, _, _, _, _, _, _, _, _, _, rfl, _⟩ := h; rfl; done) | (obtain ⟨_, _, _, _, _, _, _, _, _, _, _, rfl, _⟩ := h; rfl; done) | ((rcases h with h | h <;> first | (exact h.elim) | (obtain ⟨rfl, _⟩ := h; rfl; done) | (obtain ⟨_, rfl, _⟩ := h; rfl; done) | (obtain ⟨_, _, rfl, _⟩ := h; rfl; done) | (obtain ⟨_, _, _, rfl, _⟩ := h; rfl; done) | (obtain ⟨_, _, _, _, rfl, _⟩ := h; rfl; done) | (obtain ⟨_, _, _, _, _, rfl, _⟩ := h; rfl; done) | (obtain ⟨_, _, _, _, _, _, rfl, _⟩ := h; rfl; done) | (obtain ⟨_, _, _, _, _, _, _, rfl, _⟩ := h; rfl; done) | (obtain ⟨_, _, _, _, _, _, _, _, rfl, _⟩ := h; rfl; done) | (obtain ⟨_, _, _, _, _, _, _, _, _, rfl, _⟩ := h; rfl; done) | (obtain ⟨_, _, _, _, _, _, _, _, _, _, rfl, _⟩ := h; rfl; done) | (obtain ⟨_, _, _, _, _, _, _, _, _, _, _, rfl, _⟩ := h; rfl; done)); done)
theorem ok_law_over (T : Txt K mg A) : FnOk P w K mg base (L2.CX P w) 1 A.a_law_over A.d_law_over ["_law_calls", "_law_seats"] (toSp K sp_law_over) :=
  fn_z (k := 0) T.D_law_over.F sc_law_over len_law_over r_law_over (fun cdv A_ outer s H E G B Wz C =>
  (zs_cons (s_set (i := 2) C.nd z_int)
  (zs_cons (s_while C (t_w (w_and (t_cmp (oz_ltX C.room.units) (nomark _) (z_var 2) (z_callB cz_len (by rfl) T.x_len (by decide +kernel) (za_cons (z_var 0) za_nil))) (w_and1 (t_cmp (oz_eq C.room.units) (nomark _) (z_ix (z_var 0) (z_bin oz_sub (z_bin oz_sub (z_callB cz_len (by rfl) T.x_len (by decide +kernel) (za_cons (z_var 0) za_nil)) z_int) (z_var 2))) z_str)))) (zs_one (s_set (i := 2) C.nd (z_bin oz_add (z_var 2) z_int))))
  (zs_cons (s_if (t_cmp (oz_eq C.room.units) (nomark _) (z_var 2) (z_callB cz_len (by rfl) T.x_len (by decide +kernel) (za_cons (z_var 0) za_nil))) (zs_one (s_ret (z_cmp (oz_eq C.room.units) (nomark _) (z_var 2) (z_var 1)))) zs_nil)
  (zs_one (s_ret (z_cmp (oz_eq C.room.units) (nomark _) (z_var 2) (z_bin oz_sub (z_var 1) z_int)))))))) read_law_over
theorem len_law_stands : ∀ ds Q E, sp_law_stands ds Q E → ds.length = ["_law_calls", "_law_seats", "_law_call"].length := by
  intro ds Q E h
  first | (exact h.elim) | (obtain ⟨rfl, _⟩ := h; rfl; done) | (obtain ⟨_, rfl, _⟩ := h; rfl; done) | (obtain ⟨_, _, rfl, _⟩ := h; rfl; done) | (obtain ⟨_, _, _, rfl, _⟩ := h; rfl; done) | (obtain ⟨_, _, _, _, rfl, _⟩ := h; rfl; done) | (obtain ⟨_, _, _, _, _, rfl, _⟩ := h; rfl; done) | (obtain ⟨_, _, _, _, _, _, rfl, _⟩ := h; rfl; done) | (obtain ⟨_, _, _, _, _, _, _, rfl, _⟩ := h; rfl; done) | (obtain ⟨_, _, _, _, _, _, _, _, rfl, _⟩ := h; rfl; done) | (obtain ⟨_, _, _, _, _, _, _, _, _, rfl, _⟩ := h; rfl; done) | (obtain ⟨_, _, _, _, _, _, _, _, _, _, rfl, _⟩ := h; rfl; done) | (obtain ⟨_, _, _, _, _, _, _, _, _, _, _, rfl, _⟩ := h; rfl; done) | ((rcases h with h | h <;> first | (exact h.elim) | (obtain ⟨rfl, _⟩ := h; rfl; done) | (obtain ⟨_, rfl, _⟩ := h; rfl; done) | (obtain ⟨_, _, rfl, _⟩ := h; rfl; done) | (obtain ⟨_, _, _, rfl, _⟩ := h; rfl; done) | (obtain ⟨_, _, _, _, rfl, _⟩ := h; rfl; done) | (obtain ⟨_, _, _, _, _, rfl, _⟩ := h; rfl; done) | (obtain ⟨_, _, _, _, _, _, rfl, _⟩ := h; rfl; done) | (obtain ⟨_, _, _, _, _, _, _, rfl, _⟩ := h; rfl; done) | (obtain ⟨_, _, _, _, _, _, _, _, rfl, _⟩ := h; rfl; done) | (obtain ⟨_, _, _, _, _, _, _, _, _, rfl, _⟩ := h; rfl; done) | (obtain ⟨_, _, _, _, _, _, _, _, _, _, rfl, _⟩ := h; rfl; done) | (obtain ⟨_, _, _, _, _, _, _, _, _, _, _, rfl, _⟩ := h; rfl; done)); done)
theorem ok_law_stands (T : Txt K mg A) : FnOk P w K mg base (L2.CX P w) 2 A.a_law_stands A.d_law_stands ["_law_calls", "_law_seats", "_law_call"] (toSp K sp_law_stands) :=
  fn_z (k := 1) T.D_law_stands.F sc_law_stands len_law_stands r_law_stands (fun cdv A_ outer s H E G B Wz C =>
  (zs_cons (s_asg (z_call C (ok_law_last T) (by decide) T.D_law_last.m T.D_law_last.F.kp T.D_law_last.b (za_cons (z_var 0) za_nil)) (g_tup C.calm (gs_cons (g_name C.nd) (gs_cons (g_name C.nd) gs_nil))))
  (zs_cons (s_if (t_val (z_call C (ok_law_over T) (by decide) T.D_law_over.m T.D_law_over.F.kp T.D_law_over.b (za_cons (z_var 0) (za_cons (z_var 1) za_nil)))) (zs_one (s_ret z_bl)) zs_nil)
  (zs_cons (s_if (t_cmp (oz_eq C.room.units) (nomark _) (z_var 2) z_str) (zs_one (s_ret z_bl)) zs_nil)
  (zs_cons (s_if (t_cmp oz_notin rfl (z_var 2) (z_tup (zd_cons z_str (zd_cons z_str zd_nil)))) (zs_one (s_ret (z_or (z_cmp oz_is (nomark _) (z_var 3) z_non) (z_one (z_cmp (oz_gtX C.room.units) (nomark _) (z_call C (ok_law_rank T) (by decide) T.D_law_rank.m T.D_law_rank.F.kp T.D_law_rank.b (za_cons (z_var 2) za_nil)) (z_call C (ok_law_rank T) (by decide) T.D_law_rank.m T.D_law_rank.F.kp T.D_law_rank.b (za_cons (z_ix (z_var 0) (z_var 3)) za_nil))))))) zs_nil)
  (zs_cons (s_if (t_cmp oz_is (nomark _) (z_var 3) z_non) (zs_one (s_ret z_bl)) zs_nil)
  (zs_tail (zs_cons (s_set (i := 5) C.nd (z_call C (ok_law_own T) (by decide) T.D_law_own.m T.D_law_own.F.kp T.D_law_own.b (za_cons (z_var 1) (za_cons (z_bin oz_mod (z_callB cz_len (by rfl) T.x_len (by decide +kernel) (za_cons (z_var 0) za_nil)) (z_var 1)) (za_cons (z_bin oz_mod (z_var 3) (z_var 1)) za_nil)))))
  (zs_tail (zs_cons (s_if (t_cmp (oz_eq C.room.units) (nomark _) (z_var 2) z_str) (zs_one (s_ret (z_and (z_not (z_var 5)) (z_one (z_cmp (oz_eq C.room.units) (nomark _) (z_var 4) z_int))))) zs_nil)
  (zs_one (s_ret (z_and (z_var 5) (z_one (z_cmp (oz_eq C.room.units) (nomark _) (z_var 4) z_int))))))))))))))) read_law_stands
theorem len_read_call : ∀ ds Q E, sp_read_call ds Q E → ds.length = ["text"].length := by
  intro ds Q E h
  first | (exact h.elim) | (obtain ⟨rfl, _⟩ := h; rfl; done) | (obtain ⟨_, rfl, _⟩ := h; rfl; done) | (obtain ⟨_, _, rfl, _⟩ := h; rfl; done) | (obtain ⟨_, _, _, rfl, _⟩ := h; rfl; done) | (obtain ⟨_, _, _, _, rfl, _⟩ := h; rfl; done) | (obtain ⟨_, _, _, _, _, rfl, _⟩ := h; rfl; done) | (obtain ⟨_, _, _, _, _, _, rfl, _⟩ := h; rfl; done) | (obtain ⟨_, _, _, _, _, _, _, rfl, _⟩ := h; rfl; done) | (obtain ⟨_, _, _, _, _, _, _, _, rfl, _⟩ := h; rfl; done) | (obtain ⟨_, _, _, _, _, _, _, _, _, rfl, _⟩ := h; rfl; done) | (obtain ⟨_, _, _, _, _, _, _, _, _, _, rfl, _⟩ := h; rfl; done) | (obtain ⟨_, _, _, _, _, _, _, _, _, _, _, rfl, _⟩ := h; rfl; done) | ((rcases h with h | h <;> first | (exact h.elim) | (obtain ⟨rfl, _⟩ := h; rfl; done) | (obtain ⟨_, rfl, _⟩ := h; rfl; done) | (obtain ⟨_, _, rfl, _⟩ := h; rfl; done) | (obtain ⟨_, _, _, rfl, _⟩ := h; rfl; done) | (obtain ⟨_, _, _, _, rfl, _⟩ := h; rfl; done) | (obtain ⟨_, _, _, _, _, rfl, _⟩ := h; rfl; done) | (obtain ⟨_, _, _, _, _, _, rfl, _⟩ := h; rfl; done) | (obtain ⟨_, _, _, _, _, _, _, rfl, _⟩ := h; rfl; done) | (obtain ⟨_, _, _, _, _, _, _, _, rfl, _⟩ := h; rfl; done) | (obtain ⟨_, _, _, _, _, _, _, _, _, rfl, _⟩ := h; rfl; done) | (obtain ⟨_, _, _, _, _, _, _, _, _, _, rfl, _⟩ := h; rfl; done) | (obtain ⟨_, _, _, _, _, _, _, _, _, _, _, rfl, _⟩ := h; rfl; done)); done)
theorem ok_read_call (T : Txt K mg A) : FnOk P w K mg base (L2.CX P w) 1 A.a_read_call A.d_read_call ["text"] (toSp K sp_read_call) :=
  fn_z (k := 0) T.D_read_call.F sc_read_call len_read_call r_read_call (fun cdv A_ outer s H E G B Wz C =>
  (zs_cons (s_if (t_not (t_val (z_isi .str (z_var 0) (by rfl) T.x_isinstance (by rfl) T.x_str (by decide +kernel) (by decide) (by decide)))) (zs_one (s_raise (c := c_NoCall) C T.E_NoCall)) zs_nil)
  (zs_cons (s_if (t_cmp oz_in rfl (z_var 0) (z_const T.q_WORDS)) (zs_one (s_ret (z_var 0))) zs_nil)
  (zs_cons (s_if (t_w (w_or (t_cmp (oz_ne C.room.units) (nomark _) (z_callB cz_len (by rfl) T.x_len (by decide +kernel) (za_cons (z_var 0) za_nil)) z_int) (w_or (t_cmp oz_notin rfl (z_ix (z_var 0) z_int) (z_const T.q_FIGURES)) (w_or1 (t_cmp oz_notin rfl (z_ix (z_var 0) z_int) (z_const T.q_STRAINS)))))) (zs_one (s_raise (c := c_NoCall) C T.E_NoCall)) zs_nil)
  (zs_cons (s_set (i := 1) C.nd (z_mq 1 mq_sindex PySem.F.plainAttrs_str PySem.F.slot_str_index PySem.F.type_str_index (z_const T.q_STRAINS) (za_cons (z_ix (z_var 0) z_int) za_nil)))
  (zs_cons (s_if (t_cmp (oz_eq C.room.units) (nomark _) (z_var 1) z_int) (zs_one (s_set (i := 1) C.nd z_non)) zs_nil)
  (zs_one (s_ret (z_tup (zd_cons (z_bin oz_add (z_mq 1 mq_sindex PySem.F.plainAttrs_str PySem.F.slot_str_index PySem.F.type_str_index (z_const T.q_FIGURES) (za_cons (z_ix (z_var 0) z_int) za_nil)) z_int) (zd_cons (z_var 1) zd_nil))))))))))) read_read_call
theorem len_Auction_passes : ∀ ds Q E, sp_Auction_passes ds Q E → ds.length = ["self"].length := by
  intro ds Q E h
  first | (exact h.elim) | (obtain ⟨rfl, _⟩ := h; rfl; done) | (obtain ⟨_, rfl, _⟩ := h; rfl; done) | (obtain ⟨_, _, rfl, _⟩ := h; rfl; done) | (obtain ⟨_, _, _, rfl, _⟩ := h; rfl; done) | (obtain ⟨_, _, _, _, rfl, _⟩ := h; rfl; done) | (obtain ⟨_, _, _, _, _, rfl, _⟩ := h; rfl; done) | (obtain ⟨_, _, _, _, _, _, rfl, _⟩ := h; rfl; done) | (obtain ⟨_, _, _, _, _, _, _, rfl, _⟩ := h; rfl; done) | (obtain ⟨_, _, _, _, _, _, _, _, rfl, _⟩ := h; rfl; done) | (obtain ⟨_, _, _, _, _, _, _, _, _, rfl, _⟩ := h; rfl; done) | (obtain ⟨_, _, _, _, _, _, _, _, _, _, rfl, _⟩ := h; rfl; done) | (obtain ⟨_, _, _, _, _, _, _, _, _, _, _, rfl, _⟩ := h; rfl; done) | ((rcases h with h | h <;> first | (exact h.elim) | (obtain ⟨rfl, _⟩ := h; rfl; done) | (obtain ⟨_, rfl, _⟩ := h; rfl; done) | (obtain ⟨_, _, rfl, _⟩ := h; rfl; done) | (obtain ⟨_, _, _, rfl, _⟩ := h; rfl; done) | (obtain ⟨_, _, _, _, rfl, _⟩ := h; rfl; done) | (obtain ⟨_, _, _, _, _, rfl, _⟩ := h; rfl; done) | (obtain ⟨_, _, _, _, _, _, rfl, _⟩ := h; rfl; done) | (obtain ⟨_, _, _, _, _, _, _, rfl, _⟩ := h; rfl; done) | (obtain ⟨_, _, _, _, _, _, _, _, rfl, _⟩ := h; rfl; done) | (obtain ⟨_, _, _, _, _, _, _, _, _, rfl, _⟩ := h; rfl; done) | (obtain ⟨_, _, _, _, _, _, _, _, _, _, rfl, _⟩ := h; rfl; done) | (obtain ⟨_, _, _, _, _, _, _, _, _, _, _, rfl, _⟩ := h; rfl; done)); done)
theorem ok_Auction_passes (T : Txt K mg A) : FnOk P w K mg base (L2.CX P w) 1 A.a_Auction_passes A.d_Auction_passes ["self"] (toSp K sp_Auction_passes) :=
  fn_z (k := 0) T.D_Auction_passes.F sc_Auction_passes len_Auction_passes r_Auction_passes (fun cdv A_ outer s H E G B Wz C =>
  (zs_cons (s_set (i := 1) C.nd z_int)
  (zs_cons (s_for C (zi_reversed T.x_reversed (zd_cons (z_fld (z_var 0) (.cons T.C_Auction T.cl_Auction T.n_Auction_calls (.cons (cls100 T.C_Auction) T.cl_Auction T.n_Auction_calls .nil))) zd_nil)) (g_name C.nd) (zs_cons (s_if (t_cmp (oz_ne C.room.units) (nomark _) (z_var 2) z_str) (zs_one (s_ret (z_var 1))) zs_nil)
  (zs_one (s_set (i := 1) C.nd (z_bin oz_add (z_var 1) z_int)))))
  (zs_one (s_ret (z_var 1)))))) read_Auction_passes
theorem len_Auction_is_done : ∀ ds Q E, sp_Auction_is_done ds Q E → ds.length = ["self"].length := by
  intro ds Q E h
  first | (exact h.elim) | (obtain ⟨rfl, _⟩ := h; rfl; done) | (obtain ⟨_, rfl, _⟩ := h; rfl; done) | (obtain ⟨_, _, rfl, _⟩ := h; rfl; done) | (obtain ⟨_, _, _, rfl, _⟩ := h; rfl; done) | (obtain ⟨_, _, _, _, rfl, _⟩ := h; rfl; done) | (obtain ⟨_, _, _, _, _, rfl, _⟩ := h; rfl; done) | (obtain ⟨_, _, _, _, _, _, rfl, _⟩ := h; rfl; done) | (obtain ⟨_, _, _, _, _, _, _, rfl, _⟩ := h; rfl; done) | (obtain ⟨_, _, _, _, _, _, _, _, rfl, _⟩ := h; rfl; done) | (obtain ⟨_, _, _, _, _, _, _, _, _, rfl, _⟩ := h; rfl; done) | (obtain ⟨_, _, _, _, _, _, _, _, _, _, rfl, _⟩ := h; rfl; done) | (obtain ⟨_, _, _, _, _, _, _, _, _, _, _, rfl, _⟩ := h; rfl; done) | ((rcases h with h | h <;> first | (exact h.elim) | (obtain ⟨rfl, _⟩ := h; rfl; done) | (obtain ⟨_, rfl, _⟩ := h; rfl; done) | (obtain ⟨_, _, rfl, _⟩ := h; rfl; done) | (obtain ⟨_, _, _, rfl, _⟩ := h; rfl; done) | (obtain ⟨_, _, _, _, rfl, _⟩ := h; rfl; done) | (obtain ⟨_, _, _, _, _, rfl, _⟩ := h; rfl; done) | (obtain ⟨_, _, _, _, _, _, rfl, _⟩ := h; rfl; done) | (obtain ⟨_, _, _, _, _, _, _, rfl, _⟩ := h; rfl; done) | (obtain ⟨_, _, _, _, _, _, _, _, rfl, _⟩ := h; rfl; done) | (obtain ⟨_, _, _, _, _, _, _, _, _, rfl, _⟩ := h; rfl; done) | (obtain ⟨_, _, _, _, _, _, _, _, _, _, rfl, _⟩ := h; rfl; done) | (obtain ⟨_, _, _, _, _, _, _, _, _, _, _, rfl, _⟩ := h; rfl; done)); done)
theorem ok_Auction_is_done (T : Txt K mg A) : FnOk P w K mg base (L2.CX P w) 2 A.a_Auction_is_done A.d_Auction_is_done ["self"] (toSp K sp_Auction_is_done) :=
  fn_z (k := 1) T.D_Auction_is_done.F sc_Auction_is_done len_Auction_is_done r_Auction_is_done (fun cdv A_ outer s H E G B Wz C =>
  (zs_cons (s_if (t_cmp (oz_eq C.room.units) (nomark _) (z_mthL0 (m := a_passes) (i := 0) C (.cons (cls100 T.C_Auction) T.cl_Auction T.me_Auction_passes (ok_Auction_passes T) T.D_Auction_passes.b (by decide) .nil)) (z_callB cz_len (by rfl) T.x_len (by decide +kernel) (za_cons (z_fld (z_var 0) (.cons T.C_Auction T.cl_Auction T.n_Auction_calls (.cons (cls100 T.C_Auction) T.cl_Auction T.n_Auction_calls .nil))) za_nil))) (zs_one (s_ret (z_cmp (oz_eq C.room.units) (nomark _) (z_callB cz_len (by rfl) T.x_len (by decide +kernel) (za_cons (z_fld (z_var 0) (.cons T.C_Auction T.cl_Auction T.n_Auction_calls (.cons (cls100 T.C_Auction) T.cl_Auction T.n_Auction_calls .nil))) za_nil)) (z_fld (z_var 0) (.cons T.C_Auction T.cl_Auction T.n_Auction_many_seats (.cons (cls100 T.C_Auction) T.cl_Auction T.n_Auction_many_seats .nil)))))) zs_nil)
  (zs_one (s_ret (z_cmp (oz_eq C.room.units) (nomark _) (z_mthL0 (m := a_passes) (i := 0) C (.cons (cls100 T.C_Auction) T.cl_Auction T.me_Auction_passes (ok_Auction_passes T) T.D_Auction_passes.b (by decide) .nil)) (z_bin oz_sub (z_fld (z_var 0) (.cons T.C_Auction T.cl_Auction T.n_Auction_many_seats (.cons (cls100 T.C_Auction) T.cl_Auction T.n_Auction_many_seats .nil))) z_int)))))) read_Auction_is_done
theorem len_place_of : ∀ ds Q E, sp_place_of ds Q E → ds.length = ["strain"].length := by
  intro ds Q E h
  first | (exact h.elim) | (obtain ⟨rfl, _⟩ := h; rfl; done) | (obtain ⟨_, rfl, _⟩ := h; rfl; done) | (obtain ⟨_, _, rfl, _⟩ := h; rfl; done) | (obtain ⟨_, _, _, rfl, _⟩ := h; rfl; done) | (obtain ⟨_, _, _, _, rfl, _⟩ := h; rfl; done) | (obtain ⟨_, _, _, _, _, rfl, _⟩ := h; rfl; done) | (obtain ⟨_, _, _, _, _, _, rfl, _⟩ := h; rfl; done) | (obtain ⟨_, _, _, _, _, _, _, rfl, _⟩ := h; rfl; done) | (obtain ⟨_, _, _, _, _, _, _, _, rfl, _⟩ := h; rfl; done) | (obtain ⟨_, _, _, _, _, _, _, _, _, rfl, _⟩ := h; rfl; done) | (obtain ⟨_, _, _, _, _, _, _, _, _, _, rfl, _⟩ := h; rfl; done) | (obtain ⟨_, _, _, _, _, _, _, _, _, _, _, rfl, _⟩ := h; rfl; done) | ((rcases h with h | h <;> first | (exact h.elim) | (obtain ⟨rfl, _⟩ := h; rfl; done) | (obtain ⟨_, rfl, _⟩ := h; rfl; done) | (obtain ⟨_, _, rfl, _⟩ := h; rfl; done) | (obtain ⟨_, _, _, rfl, _⟩ := h; rfl; done) | (obtain ⟨_, _, _, _, rfl, _⟩ := h; rfl; done) | (obtain ⟨_, _, _, _, _, rfl, _⟩ := h; rfl; done) | (obtain ⟨_, _, _, _, _, _, rfl, _⟩ := h; rfl; done) | (obtain ⟨_, _, _, _, _, _, _, rfl, _⟩ := h; rfl; done) | (obtain ⟨_, _, _, _, _, _, _, _, rfl, _⟩ := h; rfl; done) | (obtain ⟨_, _, _, _, _, _, _, _, _, rfl, _⟩ := h; rfl; done) | (obtain ⟨_, _, _, _, _, _, _, _, _, _, rfl, _⟩ := h; rfl; done) | (obtain ⟨_, _, _, _, _, _, _, _, _, _, _, rfl, _⟩ := h; rfl; done)); done)
theorem ok_place_of (T : Txt K mg A) : FnOk P w K mg base (L2.CX P w) 1 A.a_place_of A.d_place_of ["strain"] (toSp K sp_place_of) :=
  fn_z (k := 0) T.D_place_of.F sc_place_of len_place_of r_place_of (fun cdv A_ outer s H E G B Wz C =>
  (zs_cons (s_if (t_cmp oz_is (nomark _) (z_var 0) z_non) (zs_one (s_ret z_int)) zs_nil)
  (zs_one (s_ret (z_var 0))))) read_place_of
theorem len_above : ∀ ds Q E, sp_above ds Q E → ds.length = ["bid", "other"].length := by
  intro ds Q E h
  first | (exact h.elim) | (obtain ⟨rfl, _⟩ := h; rfl; done) | (obtain ⟨_, rfl, _⟩ := h; rfl; done) | (obtain ⟨_, _, rfl, _⟩ := h; rfl; done) | (obtain ⟨_, _, _, rfl, _⟩ := h; rfl; done) | (obtain ⟨_, _, _, _, rfl, _⟩ := h; rfl; done) | (obtain ⟨_, _, _, _, _, rfl, _⟩ := h; rfl; done) | (obtain ⟨_, _, _, _, _, _, rfl, _⟩ := h; rfl; done) | (obtain ⟨_, _, _, _, _, _, _, rfl, _⟩ := h; rfl; done) | (obtain ⟨_, _, _, _, _, _, _, _, rfl, _⟩ := h; rfl; done) | (obtain ⟨_, _, _, _, _, _, _, _, _, rfl, _⟩ := h; rfl; done) | (obtain ⟨_, _, _, _, _, _, _, _, _, _, rfl, _⟩ := h; rfl; done) | (obtain ⟨_, _, _, _, _, _, _, _, _, _, _, rfl, _⟩ := h; rfl; done) | ((rcases h with h | h <;> first | (exact h.elim) | (obtain ⟨rfl, _⟩ := h; rfl; done) | (obtain ⟨_, rfl, _⟩ := h; rfl; done) | (obtain ⟨_, _, rfl, _⟩ := h; rfl; done) | (obtain ⟨_, _, _, rfl, _⟩ := h; rfl; done) | (obtain ⟨_, _, _, _, rfl, _⟩ := h; rfl; done) | (obtain ⟨_, _, _, _, _, rfl, _⟩ := h; rfl; done) | (obtain ⟨_, _, _, _, _, _, rfl, _⟩ := h; rfl; done) | (obtain ⟨_, _, _, _, _, _, _, rfl, _⟩ := h; rfl; done) | (obtain ⟨_, _, _, _, _, _, _, _, rfl, _⟩ := h; rfl; done) | (obtain ⟨_, _, _, _, _, _, _, _, _, rfl, _⟩ := h; rfl; done) | (obtain ⟨_, _, _, _, _, _, _, _, _, _, rfl, _⟩ := h; rfl; done) | (obtain ⟨_, _, _, _, _, _, _, _, _, _, _, rfl, _⟩ := h; rfl; done)); done)
theorem ok_above (T : Txt K mg A) : FnOk P w K mg base (L2.CX P w) 2 A.a_above A.d_above ["bid", "other"] (toSp K sp_above) :=
  fn_z (k := 1) T.D_above.F sc_above len_above r_above (fun cdv A_ outer s H E G B Wz C =>
  (zs_cons (s_if (t_cmp (oz_ne C.room.units) (nomark _) (z_ix (z_var 0) z_int) (z_ix (z_var 1) z_int)) (zs_one (s_ret (z_cmp (oz_gtX C.room.units) (nomark _) (z_ix (z_var 0) z_int) (z_ix (z_var 1) z_int)))) zs_nil)
  (zs_one (s_ret (z_cmp (oz_gtX C.room.units) (nomark _) (z_call C (ok_place_of T) (by decide) T.D_place_of.m T.D_place_of.F.kp T.D_place_of.b (za_cons (z_ix (z_var 0) z_int) za_nil)) (z_call C (ok_place_of T) (by decide) T.D_place_of.m T.D_place_of.F.kp T.D_place_of.b (za_cons (z_ix (z_var 1) z_int) za_nil))))))) read_above
theorem len_Auction_turn : ∀ ds Q E, sp_Auction_turn ds Q E → ds.length = ["self"].length := by
  intro ds Q E h
  first | (exact h.elim) | (obtain ⟨rfl, _⟩ := h; rfl; done) | (obtain ⟨_, rfl, _⟩ := h; rfl; done) | (obtain ⟨_, _, rfl, _⟩ := h; rfl; done) | (obtain ⟨_, _, _, rfl, _⟩ := h; rfl; done) | (obtain ⟨_, _, _, _, rfl, _⟩ := h; rfl; done) | (obtain ⟨_, _, _, _, _, rfl, _⟩ := h; rfl; done) | (obtain ⟨_, _, _, _, _, _, rfl, _⟩ := h; rfl; done) | (obtain ⟨_, _, _, _, _, _, _, rfl, _⟩ := h; rfl; done) | (obtain ⟨_, _, _, _, _, _, _, _, rfl, _⟩ := h; rfl; done) | (obtain ⟨_, _, _, _, _, _, _, _, _, rfl, _⟩ := h; rfl; done) | (obtain ⟨_, _, _, _, _, _, _, _, _, _, rfl, _⟩ := h; rfl; done) | (obtain ⟨_, _, _, _, _, _, _, _, _, _, _, rfl, _⟩ := h; rfl; done) | ((rcases h with h | h <;> first | (exact h.elim) | (obtain ⟨rfl, _⟩ := h; rfl; done) | (obtain ⟨_, rfl, _⟩ := h; rfl; done) | (obtain ⟨_, _, rfl, _⟩ := h; rfl; done) | (obtain ⟨_, _, _, rfl, _⟩ := h; rfl; done) | (obtain ⟨_, _, _, _, rfl, _⟩ := h; rfl; done) | (obtain ⟨_, _, _, _, _, rfl, _⟩ := h; rfl; done) | (obtain ⟨_, _, _, _, _, _, rfl, _⟩ := h; rfl; done) | (obtain ⟨_, _, _, _, _, _, _, rfl, _⟩ := h; rfl; done) | (obtain ⟨_, _, _, _, _, _, _, _, rfl, _⟩ := h; rfl; done) | (obtain ⟨_, _, _, _, _, _, _, _, _, rfl, _⟩ := h; rfl; done) | (obtain ⟨_, _, _, _, _, _, _, _, _, _, rfl, _⟩ := h; rfl; done) | (obtain ⟨_, _, _, _, _, _, _, _, _, _, _, rfl, _⟩ := h; rfl; done)); done)
theorem ok_Auction_turn (T : Txt K mg A) : FnOk P w K mg base (L2.CX P w) 3 A.a_Auction_turn A.d_Auction_turn ["self"] (toSp K sp_Auction_turn) :=
  fn_z (k := 2) T.D_Auction_turn.F sc_Auction_turn len_Auction_turn r_Auction_turn (fun cdv A_ outer s H E G B Wz C =>
  (zs_cons (s_if (t_val (z_mthL0 (m := a_is_done) (i := 0) C (.cons (cls100 T.C_Auction) T.cl_Auction T.me_Auction_is_done (ok_Auction_is_done T) T.D_Auction_is_done.b (by decide) .nil))) (zs_one (s_ret z_non)) zs_nil)
  (zs_one (s_ret (z_mthL (m := a_seat_of) (i := 0) C (.cons (cls100 T.C_Auction) T.cl_Auction T.me_Auction_seat_of (ok_Auction_seat_of T) T.D_Auction_seat_of.b (by decide) .nil) (za_cons (z_callB cz_len (by rfl) T.x_len (by decide +kernel) (za_cons (z_fld (z_var 0) (.cons T.C_Auction T.cl_Auction T.n_Auction_calls (.cons (cls100 T.C_Auction) T.cl_Auction T.n_Auction_calls .nil))) za_nil)) za_nil)))))) read_Auction_turn
theorem len_Auction_wrong : ∀ ds Q E, sp_Auction_wrong ds Q E → ds.length = ["self", "call"].length := by
  intro ds Q E h
  first | (exact h.elim) | (obtain ⟨rfl, _⟩ := h; rfl; done) | (obtain ⟨_, rfl, _⟩ := h; rfl; done) | (obtain ⟨_, _, rfl, _⟩ := h; rfl; done) | (obtain ⟨_, _, _, rfl, _⟩ := h; rfl; done) | (obtain ⟨_, _, _, _, rfl, _⟩ := h; rfl; done) | (obtain ⟨_, _, _, _, _, rfl, _⟩ := h; rfl; done) | (obtain ⟨_, _, _, _, _, _, rfl, _⟩ := h; rfl; done) | (obtain ⟨_, _, _, _, _, _, _, rfl, _⟩ := h; rfl; done) | (obtain ⟨_, _, _, _, _, _, _, _, rfl, _⟩ := h; rfl; done) | (obtain ⟨_, _, _, _, _, _, _, _, _, rfl, _⟩ := h; rfl; done) | (obtain ⟨_, _, _, _, _, _, _, _, _, _, rfl, _⟩ := h; rfl; done) | (obtain ⟨_, _, _, _, _, _, _, _, _, _, _, rfl, _⟩ := h; rfl; done) | ((rcases h with h | h <;> first | (exact h.elim) | (obtain ⟨rfl, _⟩ := h; rfl; done) | (obtain ⟨_, rfl, _⟩ := h; rfl; done) | (obtain ⟨_, _, rfl, _⟩ := h; rfl; done) | (obtain ⟨_, _, _, rfl, _⟩ := h; rfl; done) | (obtain ⟨_, _, _, _, rfl, _⟩ := h; rfl; done) | (obtain ⟨_, _, _, _, _, rfl, _⟩ := h; rfl; done) | (obtain ⟨_, _, _, _, _, _, rfl, _⟩ := h; rfl; done) | (obtain ⟨_, _, _, _, _, _, _, rfl, _⟩ := h; rfl; done) | (obtain ⟨_, _, _, _, _, _, _, _, rfl, _⟩ := h; rfl; done) | (obtain ⟨_, _, _, _, _, _, _, _, _, rfl, _⟩ := h; rfl; done) | (obtain ⟨_, _, _, _, _, _, _, _, _, _, rfl, _⟩ := h; rfl; done) | (obtain ⟨_, _, _, _, _, _, _, _, _, _, _, rfl, _⟩ := h; rfl; done)); done)
theorem ok_Auction_wrong (T : Txt K mg A) : FnOk P w K mg base (L2.CX P w) 4 A.a_Auction_wrong A.d_Auction_wrong ["self", "call"] (toSp K sp_Auction_wrong) :=
  fn_z (k := 3) T.D_Auction_wrong.F sc_Auction_wrong len_Auction_wrong r_Auction_wrong (fun cdv A_ outer s H E G B Wz C =>
  (zs_cons (s_if (t_val (z_mthL0 (m := a_is_done) (i := 0) C (.cons (cls100 T.C_Auction) T.cl_Auction T.me_Auction_is_done (ok_Auction_is_done T) T.D_Auction_is_done.b (by decide) .nil))) (zs_one (s_ret z_str)) zs_nil)
  (zs_cons (s_set (i := 2) C.nd (z_mthL0 (m := a_standing) (i := 0) C (.cons (cls100 T.C_Auction) T.cl_Auction T.me_Auction_standing (ok_Auction_standing T) T.D_Auction_standing.b (by decide) .nil)))
  (zs_cons (s_if (t_val (z_isi .tuple (z_var 1) (by rfl) T.x_isinstance (by rfl) T.x_tuple (by decide +kernel) (by decide) (by decide))) (zs_cons (s_if (t_w (w_and (t_cmp oz_isnot (nomark _) (z_var 2) z_non) (w_and1 (t_not (t_val (z_call C (ok_above T) (by decide) T.D_above.m T.D_above.F.kp T.D_above.b (za_cons (z_var 1) (za_cons (z_ix (z_var 2) z_int) za_nil)))))))) (zs_one (s_ret z_str)) zs_nil)
  (zs_one (s_ret z_non))) zs_nil)
  (zs_cons (s_if (t_cmp (oz_eq C.room.units) (nomark _) (z_var 1) z_str) (zs_one (s_ret z_non)) zs_nil)
  (zs_cons (s_if (t_cmp oz_is (nomark _) (z_var 2) z_non) (zs_one (s_ret (z_var 1))) zs_nil)
  (zs_tail (zs_cons (s_set (i := 3) C.nd (z_cmp (oz_eq C.room.units) (nomark _) (z_call C (ok_side_of T) (by decide) T.D_side_of.m T.D_side_of.F.kp T.D_side_of.b (za_cons (z_fld (z_var 0) (.cons T.C_Auction T.cl_Auction T.n_Auction_many_seats (.cons (cls100 T.C_Auction) T.cl_Auction T.n_Auction_many_seats .nil))) (za_cons (z_mthL0 (m := a_turn) (i := 0) C (.cons (cls100 T.C_Auction) T.cl_Auction T.me_Auction_turn (ok_Auction_turn T) T.D_Auction_turn.b (by decide) .nil)) za_nil))) (z_call C (ok_side_of T) (by decide) T.D_side_of.m T.D_side_of.F.kp T.D_side_of.b (za_cons (z_fld (z_var 0) (.cons T.C_Auction T.cl_Auction T.n_Auction_many_seats (.cons (cls100 T.C_Auction) T.cl_Auction T.n_Auction_many_seats .nil))) (za_cons (z_ix (z_var 2) z_int) za_nil)))))
  (zs_cons (s_if (t_w (w_or (t_w (w_and (t_cmp (oz_eq C.room.units) (nomark _) (z_var 1) z_str) (w_and1 (t_w (w_or (t_val (z_var 3)) (w_or1 (t_cmp (oz_ne C.room.units) (nomark _) (z_ix (z_var 2) z_int) z_int))))))) (w_or1 (t_w (w_and (t_cmp (oz_eq C.room.units) (nomark _) (z_var 1) z_str) (w_and1 (t_w (w_or (t_not (t_val (z_var 3))) (w_or1 (t_cmp (oz_ne C.room.units) (nomark _) (z_ix (z_var 2) z_int) z_int)))))))))) (zs_one (s_ret (z_var 1))) zs_nil)
  (zs_one (s_ret z_non))))))))))) read_Auction_wrong
theorem len_Auction_say : ∀ ns os ds Q E, sp_Auction_say ns os ds Q E → ds.length + 1 = ["self", "text"].length := by
  intro ns os ds Q E h
  first | (exact h.elim) | (obtain ⟨rfl, _⟩ := h; rfl; done) | (obtain ⟨_, rfl, _⟩ := h; rfl; done) | (obtain ⟨_, _, rfl, _⟩ := h; rfl; done) | (obtain ⟨_, _, _, rfl, _⟩ := h; rfl; done) | (obtain ⟨_, _, _, _, rfl, _⟩ := h; rfl; done) | (obtain ⟨_, _, _, _, _, rfl, _⟩ := h; rfl; done) | (obtain ⟨_, _, _, _, _, _, rfl, _⟩ := h; rfl; done) | (obtain ⟨_, _, _, _, _, _, _, rfl, _⟩ := h; rfl; done) | (obtain ⟨_, _, _, _, _, _, _, _, rfl, _⟩ := h; rfl; done) | (obtain ⟨_, _, _, _, _, _, _, _, _, rfl, _⟩ := h; rfl; done) | (obtain ⟨_, _, _, _, _, _, _, _, _, _, rfl, _⟩ := h; rfl; done) | (obtain ⟨_, _, _, _, _, _, _, _, _, _, _, rfl, _⟩ := h; rfl; done) | ((rcases h with h | h <;> first | (exact h.elim) | (obtain ⟨rfl, _⟩ := h; rfl; done) | (obtain ⟨_, rfl, _⟩ := h; rfl; done) | (obtain ⟨_, _, rfl, _⟩ := h; rfl; done) | (obtain ⟨_, _, _, rfl, _⟩ := h; rfl; done) | (obtain ⟨_, _, _, _, rfl, _⟩ := h; rfl; done) | (obtain ⟨_, _, _, _, _, rfl, _⟩ := h; rfl; done) | (obtain ⟨_, _, _, _, _, _, rfl, _⟩ := h; rfl; done) | (obtain ⟨_, _, _, _, _, _, _, rfl, _⟩ := h; rfl; done) | (obtain ⟨_, _, _, _, _, _, _, _, rfl, _⟩ := h; rfl; done) | (obtain ⟨_, _, _, _, _, _, _, _, _, rfl, _⟩ := h; rfl; done) | (obtain ⟨_, _, _, _, _, _, _, _, _, _, rfl, _⟩ := h; rfl; done) | (obtain ⟨_, _, _, _, _, _, _, _, _, _, _, rfl, _⟩ := h; rfl; done)); done)
theorem ok_Auction_say (T : Txt K mg A) : FnOk P w K mg base (L2.CX P w) 5 A.a_Auction_say A.d_Auction_say ["self", "text"] (toSpM K c_Auction sp_Auction_say) :=
  fn_zM (k := 4) (c := c_Auction) (fun sp len bd => T.D_Auction_say.F.okX sc_Auction_say len bd) sc_Auction_say len_Auction_say r_Auction_say (fun cdv A_ outer s H E G B Wz C =>
  (zs_cons (s_set (i := 2) C.nd (z_call C (ok_read_call T) (by decide) T.D_read_call.m T.D_read_call.F.kp T.D_read_call.b (za_cons (z_var 1) za_nil)))
  (zs_cons (s_set (i := 3) C.nd (z_mthL (m := a_wrong) (i := 0) C (.cons (cls100 T.C_Auction) T.cl_Auction T.me_Auction_wrong (ok_Auction_wrong T) T.D_Auction_wrong.b (by decide) .nil) (za_cons (z_var 2) za_nil)))
  (zs_cons (s_if (t_cmp oz_isnot (nomark _) (z_var 3) z_non) (zs_one s_never) zs_nil)
  (zs_one (s_expr (z_metF (i := 0) 2 mz_append PySem.F.plainAttrs_list PySem.F.slot_list_append PySem.F.type_list_append (.cons T.C_Auction T.cl_Auction T.n_Auction_calls (.cons (cls100 T.C_Auction) T.cl_Auction T.n_Auction_calls .nil))))))))) read_Auction_say
theorem len_law : ∀ ds Q E, sp_law ds Q E → ds.length = ["_law_script"].length := by
  intro ds Q E h
  first | (exact h.elim) | (obtain ⟨rfl, _⟩ := h; rfl; done) | (obtain ⟨_, rfl, _⟩ := h; rfl; done) | (obtain ⟨_, _, rfl, _⟩ := h; rfl; done) | (obtain ⟨_, _, _, rfl, _⟩ := h; rfl; done) | (obtain ⟨_, _, _, _, rfl, _⟩ := h; rfl; done) | (obtain ⟨_, _, _, _, _, rfl, _⟩ := h; rfl; done) | (obtain ⟨_, _, _, _, _, _, rfl, _⟩ := h; rfl; done) | (obtain ⟨_, _, _, _, _, _, _, rfl, _⟩ := h; rfl; done) | (obtain ⟨_, _, _, _, _, _, _, _, rfl, _⟩ := h; rfl; done) | (obtain ⟨_, _, _, _, _, _, _, _, _, rfl, _⟩ := h; rfl; done) | (obtain ⟨_, _, _, _, _, _, _, _, _, _, rfl, _⟩ := h; rfl; done) | (obtain ⟨_, _, _, _, _, _, _, _, _, _, _, rfl, _⟩ := h; rfl; done) | ((rcases h with h | h <;> first | (exact h.elim) | (obtain ⟨rfl, _⟩ := h; rfl; done) | (obtain ⟨_, rfl, _⟩ := h; rfl; done) | (obtain ⟨_, _, rfl, _⟩ := h; rfl; done) | (obtain ⟨_, _, _, rfl, _⟩ := h; rfl; done) | (obtain ⟨_, _, _, _, rfl, _⟩ := h; rfl; done) | (obtain ⟨_, _, _, _, _, rfl, _⟩ := h; rfl; done) | (obtain ⟨_, _, _, _, _, _, rfl, _⟩ := h; rfl; done) | (obtain ⟨_, _, _, _, _, _, _, rfl, _⟩ := h; rfl; done) | (obtain ⟨_, _, _, _, _, _, _, _, rfl, _⟩ := h; rfl; done) | (obtain ⟨_, _, _, _, _, _, _, _, _, rfl, _⟩ := h; rfl; done) | (obtain ⟨_, _, _, _, _, _, _, _, _, _, rfl, _⟩ := h; rfl; done) | (obtain ⟨_, _, _, _, _, _, _, _, _, _, _, rfl, _⟩ := h; rfl; done)); done)
theorem ok_law (T : Txt K mg A) : FnOk P w K mg base (L2.CX P w) 6 A.a_law A.d_law ["_law_script"] (toSp K sp_law) :=
  fn_z (k := 5) T.D_law.F sc_law len_law r_law (fun cdv A_ outer s H E G B Wz C =>
  (zs_cons (s_set (i := 1) C.nd (z_bin oz_add z_int (z_bin oz_mod (z_call C (ok_law_cell T) (by decide) T.D_law_cell.m T.D_law_cell.F.kp T.D_law_cell.b (za_cons (z_var 0) (za_cons z_int za_nil))) z_int)))
  (zs_cons (s_set (i := 2) C.nd (z_bin oz_mod (z_call C (ok_law_cell T) (by decide) T.D_law_cell.m T.D_law_cell.F.kp T.D_law_cell.b (za_cons (z_var 0) (za_cons z_int za_nil))) (z_var 1)))
  (zs_cons (s_set (i := 3) C.nd (z_lst (zd_cons (z_bin oz_mod (z_call C (ok_law_cell T) (by decide) T.D_law_cell.m T.D_law_cell.F.kp T.D_law_cell.b (za_cons (z_var 0) (za_cons z_int za_nil))) z_int) (zd_cons (z_bin oz_mod (z_bin oz_fdiv (z_call C (ok_law_cell T) (by decide) T.D_law_cell.m T.D_law_cell.F.kp T.D_law_cell.b (za_cons (z_var 0) (za_cons z_int za_nil))) z_int) z_int) zd_nil))))
  (zs_cons (s_set (i := 4) C.nd (z_makeM C T.C_Auction T.M_Auction (ok_Auction_init T) (by decide) T.mg_Auction T.D_Auction_init.b .nil (fun _ _ => .nil) (zd_cons (z_var 1) (zd_cons (z_var 2) zd_nil))))
  (zs_cons (s_set (i := 5) C.nd (z_lst zd_nil))
  (zs_cons (s_set (i := 6) C.nd (z_lst zd_nil))
  (zs_tail (zs_cons (s_for C (zi_range1 T.x_range (za_cons z_int za_nil)) (g_name C.nd) (zs_cons (s_set (i := 8) C.nd (z_mthL0 (m := a_contract) (i := 4) C (.cons (cls100 T.C_Auction) T.cl_Auction T.me_Auction_contract (ok_Auction_contract T) T.D_Auction_contract.b (by decide) .nil)))
  (zs_cons (s_if (t_not (t_val (z_call C (ok_law_right T) (by decide) T.D_law_right.m T.D_law_right.F.kp T.D_law_right.b (za_cons (z_var 8) (za_cons (z_call C (ok_law_due T) (by decide) T.D_law_due.m T.D_law_due.F.kp T.D_law_due.b (za_cons (z_var 5) (za_cons (z_var 1) (za_cons (z_var 2) za_nil)))) za_nil))))) (zs_one (s_ret z_bl)) zs_nil)
  (zs_cons (s_expr (z_met 6 mz_append PySem.F.plainAttrs_list PySem.F.slot_list_append PySem.F.type_list_append (zd_cons (z_tup (zd_cons (z_var 8) (zd_cons (z_callB cz_len (by rfl) T.x_len (by decide +kernel) (za_cons (z_var 5) za_nil)) zd_nil))) zd_nil)))
  (zs_cons (s_set (i := 9) C.nd (z_call C (ok_law_drawn T) (by decide) T.D_law_drawn.m T.D_law_drawn.F.kp T.D_law_drawn.b (za_cons (z_var 0) (za_cons (z_bin oz_add z_int (z_var 7)) (za_cons (z_var 5) (za_cons (z_var 3) za_nil))))))
  (zs_one (s_if (t_val (z_call C (ok_law_stands T) (by decide) T.D_law_stands.m T.D_law_stands.F.kp T.D_law_stands.b (za_cons (z_var 5) (za_cons (z_var 1) (za_cons (z_var 9) za_nil))))) (zs_cons (s_expr (z_mthM (m := a_say) (i := 4) C (.cons T.C_Auction T.cl_Auction T.me_Auction_say (ok_Auction_say T) T.D_Auction_say.b (by decide) .nil) (zd_cons (z_var 9) zd_nil)))
  (zs_one (s_expr (z_met 5 mz_append PySem.F.plainAttrs_list PySem.F.slot_list_append PySem.F.type_list_append (zd_cons (z_var 9) zd_nil))))) zs_nil)))))))
  (zs_tail (zs_cons (s_for C (zi_seq (z_var 6)) (g_tup C.calm (gs_cons (g_name C.nd) (gs_cons (g_name C.nd) gs_nil))) (zs_one (s_if (t_not (t_val (z_call C (ok_law_right T) (by decide) T.D_law_right.m T.D_law_right.F.kp T.D_law_right.b (za_cons (z_var 8) (za_cons (z_call C (ok_law_due T) (by decide) T.D_law_due.m T.D_law_due.F.kp T.D_law_due.b (za_cons (z_sl (z_var 5) zo_none (zo_some (z_var 10))) (za_cons (z_var 1) (za_cons (z_var 2) za_nil)))) za_nil))))) (zs_one (s_ret z_bl)) zs_nil)))
  (zs_one (s_ret (z_call C (ok_law_right T) (by decide) T.D_law_right.m T.D_law_right.F.kp T.D_law_right.b (za_cons (z_mthL0 (m := a_contract) (i := 4) C (.cons (cls100 T.C_Auction) T.cl_Auction T.me_Auction_contract (ok_Auction_contract T) T.D_Auction_contract.b (by decide) .nil)) (za_cons (z_call C (ok_law_due T) (by decide) T.D_law_due.m T.D_law_due.F.kp T.D_law_due.b (za_cons (z_var 5) (za_cons (z_var 1) (za_cons (z_var 2) za_nil)))) za_nil)))))))))))))))) read_law
end
theorem all_mk {P : Program} {w : World} {K : Frag} {h : Heap} {mg : Str → Option Value} {fa : Addr} (X : K.In h) (G : h.Ns mainGlobals mg) (hfa : mg "law" = some (.ref fa))
    (hC_Auction : ∃ C, PySem.W.nsIn K mainGlobals "Auction" = some (some (.ref C)) ∧ Cls K C ∧ PySem.W.keepIn K (.ref C) = true)
    (hE_NoCall : ∃ C, ExAt K mg c_NoCall C)
    (h_law_cell : ∃ f fd, DefAt K mg "_law_cell" s_law_cell ["_law_script", "_law_k"] f fd)
    (h_Auction_init : ∃ C f fd, PySem.W.nsIn K mainGlobals "Auction" = some (some (.ref C)) ∧ Mk K C f ∧ InitAtI 0 K "__init__" "Auction.__init__" s_Auction_init ["self", "seats", "first"] f fd)
    (h_Auction_seat_of : ∃ C f fd, PySem.W.nsIn K mainGlobals "Auction" = some (some (.ref C)) ∧ Meth K C "seat_of" f ∧ MethAt K "seat_of" "Auction.seat_of" s_Auction_seat_of ["self", "number"] f fd)
    (h_Auction_standing : ∃ C f fd, PySem.W.nsIn K mainGlobals "Auction" = some (some (.ref C)) ∧ Meth K C "standing" f ∧ MethAt K "standing" "Auction.standing" s_Auction_standing ["self"] f fd)
    (h_side_of : ∃ f fd, DefAt K mg "side_of" s_side_of ["seats", "seat"] f fd)
    (h_Auction_contract : ∃ C f fd, PySem.W.nsIn K mainGlobals "Auction" = some (some (.ref C)) ∧ Meth K C "contract" f ∧ MethAt K "contract" "Auction.contract" s_Auction_contract ["self"] f fd)
    (h_law_right : ∃ f fd, DefAt K mg "_law_right" s_law_right ["_law_found", "_law_due_here"] f fd)
    (h_law_last : ∃ f fd, DefAt K mg "_law_last" s_law_last ["_law_calls"] f fd)
    (h_law_rank : ∃ f fd, DefAt K mg "_law_rank" s_law_rank ["_law_text_here"] f fd)
    (h_law_own : ∃ f fd, DefAt K mg "_law_own" s_law_own ["_law_seats", "_law_one", "_law_other"] f fd)
    (h_law_due : ∃ f fd, DefAt K mg "_law_due" s_law_due ["_law_calls", "_law_seats", "_law_first"] f fd)
    (h_law_text : ∃ f fd, DefAt K mg "_law_text" s_law_text ["_law_rank_here"] f fd)
    (h_law_drawn : ∃ f fd, DefAt K mg "_law_drawn" s_law_drawn ["_law_script", "_law_k", "_law_calls", "_law_strains"] f fd)
    (h_law_over : ∃ f fd, DefAt K mg "_law_over" s_law_over ["_law_calls", "_law_seats"] f fd)
    (h_law_stands : ∃ f fd, DefAt K mg "_law_stands" s_law_stands ["_law_calls", "_law_seats", "_law_call"] f fd)
    (h_read_call : ∃ f fd, DefAt K mg "read_call" s_read_call ["text"] f fd)
    (h_Auction_passes : ∃ C f fd, PySem.W.nsIn K mainGlobals "Auction" = some (some (.ref C)) ∧ Meth K C "passes" f ∧ MethAt K "passes" "Auction.passes" s_Auction_passes ["self"] f fd)
    (h_Auction_is_done : ∃ C f fd, PySem.W.nsIn K mainGlobals "Auction" = some (some (.ref C)) ∧ Meth K C "is_done" f ∧ MethAt K "is_done" "Auction.is_done" s_Auction_is_done ["self"] f fd)
    (h_place_of : ∃ f fd, DefAt K mg "place_of" s_place_of ["strain"] f fd)
    (h_above : ∃ f fd, DefAt K mg "above" s_above ["bid", "other"] f fd)
    (h_Auction_turn : ∃ C f fd, PySem.W.nsIn K mainGlobals "Auction" = some (some (.ref C)) ∧ Meth K C "turn" f ∧ MethAt K "turn" "Auction.turn" s_Auction_turn ["self"] f fd)
    (h_Auction_wrong : ∃ C f fd, PySem.W.nsIn K mainGlobals "Auction" = some (some (.ref C)) ∧ Meth K C "wrong" f ∧ MethAt K "wrong" "Auction.wrong" s_Auction_wrong ["self", "call"] f fd)
    (h_Auction_say : ∃ C f fd, PySem.W.nsIn K mainGlobals "Auction" = some (some (.ref C)) ∧ Meth K C "say" f ∧ MethAt K "say" "Auction.say" s_Auction_say ["self", "text"] f fd)
    (h_law : ∃ f fd, DefAt K mg "law" s_law ["_law_script"] f fd)
    (hF_Auction_many_seats : ∃ C, PySem.W.nsIn K mainGlobals "Auction" = some (some (.ref C)) ∧ NoAttr K C "many_seats")
    (hF_Auction_begins : ∃ C, PySem.W.nsIn K mainGlobals "Auction" = some (some (.ref C)) ∧ NoAttr K C "begins")
    (hF_Auction_calls : ∃ C, PySem.W.nsIn K mainGlobals "Auction" = some (some (.ref C)) ∧ NoAttr K C "calls")
    (hq_FIGURES : ConstAt K mg "FIGURES" (.str "12345678"))
    (hq_STRAINS : ConstAt K mg "STRAINS" (.str "abcdn"))
    (hq_WORDS : ConstAt K mg "WORDS" (.tup ((["pass", "double", "again"] : List Str).map D.str)))
    (x_bool : PySem.W.nsIn K mainGlobals "bool" = some none)
    (x_enumerate : PySem.W.nsIn K mainGlobals "enumerate" = some none)
    (x_int : PySem.W.nsIn K mainGlobals "int" = some none)
    (x_isinstance : PySem.W.nsIn K mainGlobals "isinstance" = some none)
    (x_len : PySem.W.nsIn K mainGlobals "len" = some none)
    (x_min : PySem.W.nsIn K mainGlobals "min" = some none)
    (x_range : PySem.W.nsIn K mainGlobals "range" = some none)
    (x_reversed : PySem.W.nsIn K mainGlobals "reversed" = some none)
    (x_str : PySem.W.nsIn K mainGlobals "str" = some none)
    (x_tuple : PySem.W.nsIn K mainGlobals "tuple" = some none)
    (x_zip : PySem.W.nsIn K mainGlobals "zip" = some none) :
    ∃ fd : FuncData, (∀ (s : Shared) (v : Value), BindsTo s fd ⟨[v], []⟩ [("_law_script", v)]) ∧ ∀ base : Heap, K.In base → base.Ns mainGlobals mg → FnOk P w K mg base (L2.CX P w) 6 fa fd ["_law_script"] (toSp K sp_law) := by
  obtain ⟨C_Auction, e_Auction, cl_Auction, kc_Auction⟩ := hC_Auction
  obtain ⟨f_law_cell, g_law_cell, h_law_cell⟩ := h_law_cell
  obtain ⟨_, f_Auction_init, g_Auction_init, e, M_Auction, h_Auction_init⟩ := h_Auction_init
  obtain rfl := cls_uniq e_Auction e
  obtain ⟨_, f_Auction_seat_of, g_Auction_seat_of, e, me_Auction_seat_of, h_Auction_seat_of⟩ := h_Auction_seat_of
  obtain rfl := cls_uniq e_Auction e
  obtain ⟨_, f_Auction_standing, g_Auction_standing, e, me_Auction_standing, h_Auction_standing⟩ := h_Auction_standing
  obtain rfl := cls_uniq e_Auction e
  obtain ⟨f_side_of, g_side_of, h_side_of⟩ := h_side_of
  obtain ⟨_, f_Auction_contract, g_Auction_contract, e, me_Auction_contract, h_Auction_contract⟩ := h_Auction_contract
  obtain rfl := cls_uniq e_Auction e
  obtain ⟨f_law_right, g_law_right, h_law_right⟩ := h_law_right
  obtain ⟨f_law_last, g_law_last, h_law_last⟩ := h_law_last
  obtain ⟨f_law_rank, g_law_rank, h_law_rank⟩ := h_law_rank
  obtain ⟨f_law_own, g_law_own, h_law_own⟩ := h_law_own
  obtain ⟨f_law_due, g_law_due, h_law_due⟩ := h_law_due
  obtain ⟨f_law_text, g_law_text, h_law_text⟩ := h_law_text
  obtain ⟨f_law_drawn, g_law_drawn, h_law_drawn⟩ := h_law_drawn
  obtain ⟨f_law_over, g_law_over, h_law_over⟩ := h_law_over
  obtain ⟨f_law_stands, g_law_stands, h_law_stands⟩ := h_law_stands
  obtain ⟨f_read_call, g_read_call, h_read_call⟩ := h_read_call
  obtain ⟨_, f_Auction_passes, g_Auction_passes, e, me_Auction_passes, h_Auction_passes⟩ := h_Auction_passes
  obtain rfl := cls_uniq e_Auction e
  obtain ⟨_, f_Auction_is_done, g_Auction_is_done, e, me_Auction_is_done, h_Auction_is_done⟩ := h_Auction_is_done
  obtain rfl := cls_uniq e_Auction e
  obtain ⟨f_place_of, g_place_of, h_place_of⟩ := h_place_of
  obtain ⟨f_above, g_above, h_above⟩ := h_above
  obtain ⟨_, f_Auction_turn, g_Auction_turn, e, me_Auction_turn, h_Auction_turn⟩ := h_Auction_turn
  obtain rfl := cls_uniq e_Auction e
  obtain ⟨_, f_Auction_wrong, g_Auction_wrong, e, me_Auction_wrong, h_Auction_wrong⟩ := h_Auction_wrong
  obtain rfl := cls_uniq e_Auction e
  obtain ⟨_, f_Auction_say, g_Auction_say, e, me_Auction_say, h_Auction_say⟩ := h_Auction_say
  obtain rfl := cls_uniq e_Auction e
  obtain ⟨f_law, g_law, h_law⟩ := h_law
  obtain ⟨_, e, n_Auction_many_seats⟩ := hF_Auction_many_seats
  obtain rfl := cls_uniq e_Auction e
  obtain ⟨_, e, n_Auction_begins⟩ := hF_Auction_begins
  obtain rfl := cls_uniq e_Auction e
  obtain ⟨_, e, n_Auction_calls⟩ := hF_Auction_calls
  obtain rfl := cls_uniq e_Auction e
  have e := hfa.symm.trans h_law.m
  cases e
  have T : Txt K mg ⟨f_law_cell, g_law_cell, f_Auction_init, g_Auction_init, f_Auction_seat_of, g_Auction_seat_of, f_Auction_standing, g_Auction_standing, f_side_of, g_side_of, f_Auction_contract, g_Auction_contract, f_law_right, g_law_right, f_law_last, g_law_last, f_law_rank, g_law_rank, f_law_own, g_law_own, f_law_due, g_law_due, f_law_text, g_law_text, f_law_drawn, g_law_drawn, f_law_over, g_law_over, f_law_stands, g_law_stands, f_read_call, g_read_call, f_Auction_passes, g_Auction_passes, f_Auction_is_done, g_Auction_is_done, f_place_of, g_place_of, f_above, g_above, f_Auction_turn, g_Auction_turn, f_Auction_wrong, g_Auction_wrong, f_Auction_say, g_Auction_say, fa, g_law, C_Auction⟩ := ⟨h_law_cell, h_Auction_init, h_Auction_seat_of, h_Auction_standing, h_side_of, h_Auction_contract, h_law_right, h_law_last, h_law_rank, h_law_own, h_law_due, h_law_text, h_law_drawn, h_law_over, h_law_stands, h_read_call, h_Auction_passes, h_Auction_is_done, h_place_of, h_above, h_Auction_turn, h_Auction_wrong, h_Auction_say, h_law, e_Auction, cl_Auction, PySem.W.mg_of X G e_Auction, kc_Auction, hE_NoCall, M_Auction, me_Auction_seat_of, me_Auction_standing, me_Auction_passes, me_Auction_is_done, me_Auction_turn, me_Auction_wrong, me_Auction_contract, me_Auction_say, n_Auction_many_seats, n_Auction_begins, n_Auction_calls, hq_FIGURES, hq_STRAINS, hq_WORDS, PySem.W.mg_none_of X G x_bool, PySem.W.mg_none_of X G x_enumerate, PySem.W.mg_none_of X G x_int, PySem.W.mg_none_of X G x_isinstance, PySem.W.mg_none_of X G x_len, PySem.W.mg_none_of X G x_min, PySem.W.mg_none_of X G x_range, PySem.W.mg_none_of X G x_reversed, PySem.W.mg_none_of X G x_str, PySem.W.mg_none_of X G x_tuple, PySem.W.mg_none_of X G x_zip⟩
  exact ⟨_, fun s v => h_law.bt s [v] rfl, fun base _ _ => ok_law T⟩
theorem the_walk {l : PySem.W.OpenLaw} {q : Program} {loose : List Str} {XP : (Str → Option Value) → Heap → Prop} {YP : World → Heap → Prop} {d : DefRec} {K : Params → Frag} (hn : l.most = some 63) (hdf : d.params.defaults = [])
    (hY : ∀ (w : World) (h : Heap), YP w h → (K w.params).In h)
    (F : ∀ (w : World) (mg : Str → Option Value) (fa : Addr) (h : Heap), (K w.params).In h → h.Ns mainGlobals mg → mg d.name = some (.ref fa) →
      ∃ fd : FuncData, (∀ (s : Shared) (u : Value), BindsTo s fd ⟨[u], []⟩ [("_law_script", u)]) ∧ ∀ base : Heap, (K w.params).In base → base.Ns mainGlobals mg → FnOk l.prog w (K w.params) mg base (L2.CX l.prog w) 6 fa fd ["_law_script"] (toSp (K w.params) sp_law)) :
    PySem.W.WalkO q loose XP YP l.row.toRowW d [] (fun f vs => PySem.call f vs) :=
  L2.walk_of (n := 63) (k := 6) (x := "_law_script") (CX := fun w => L2.CX l.prog w) (sp := fun w => toSp (K w.params) sp_law) hn (by decide) hdf ⟨rfl, by decide, by decide⟩ hY F (fun _ H a ns hl hO hS => law_sp (fun m hm Q E q => by first | exact ⟨m, ns, rfl, hm, hl, q⟩ | exact ⟨m, ns, rfl, hl, q⟩) hO hS) fun _ _ _ _ _ z => law_cx z
end Z
open PySem PySem.W PyProof.Rows
set_option maxRecDepth 100000 in
set_option maxHeartbeats 0 in
theorem PySem.Challenge.cw_trickproof_k19_contracts_holds : PySem.Challenge.rw_trickproof_k19_contracts.Holds := by
  w_on; o_law; k_head; (case hw => w_witness2)
  k_fill
  refine Z.the_walk (l := PySem.Challenge.rw_trickproof_k19_contracts) rfl rfl (fun w h Y => PySem.W.kIn_of Y) ?F
  case F =>
    intro w mg fa h KX G hmg
    refine' Z.all_mk KX G hmg ?hC_Auction ?hE_NoCall ?h_law_cell ?h_Auction_init ?h_Auction_seat_of ?h_Auction_standing ?h_side_of ?h_Auction_contract ?h_law_right ?h_law_last ?h_law_rank ?h_law_own ?h_law_due ?h_law_text ?h_law_drawn ?h_law_over ?h_law_stands ?h_read_call ?h_Auction_passes ?h_Auction_is_done ?h_place_of ?h_above ?h_Auction_turn ?h_Auction_wrong ?h_Auction_say ?h_law ?hF_Auction_many_seats ?hF_Auction_begins ?hF_Auction_calls ?hq_FIGURES ?hq_STRAINS ?hq_WORDS ?x_bool ?x_enumerate ?x_int ?x_isinstance ?x_len ?x_min ?x_range ?x_reversed ?x_str ?x_tuple ?x_zip
    (case hC_Auction => (refine' Z.cls_at ?a ?pg ?hd ?po ?sa ?kc; (case a => k_is); (case pg => k_is); (case hd => k_is); (case po => k_is); (case sa => k_is); (case kc => k_is)))
    (case hE_NoCall => (refine' Z.ex_at KX G ?xa ?xq ?xk ?xb ?xt; (case xa => k_is); (case xq => k_exc); (case xk => k_is); (case xb => k_is); (case xt => k_is)))
    (case h_law_cell => (refine' Z.def_at KX G (fun _ _ _ _ _ _ us hl => match us, hl with | [_, _], _ => rfl) ?a ?l ?c ?k; (case a => k_is); (case l => k_is); (case c => k_is); (case k => k_is)))
    (case h_Auction_init => (refine' Z.initDI_at (n := 2) rfl (fun _ _ _ _ _ _ _ us its hl h1 => match us, hl, its, h1 with | [_, _, _], _, [_], _ => ⟨_, rfl, rfl⟩) (fun _ _ _ _ _ _ _ us its hl h1 => match us, hl, its, h1 with | [_, _], _, [_], _ => ⟨_, rfl, rfl⟩) ?a ?mk ?kc ?g ?i ?l ?c ?k ?t; (case a => k_is); (case mk => k_is); (case kc => k_is); (case g => k_is); (case i => k_is); (case l => k_is); (case c => k_is); (case k => k_is); (case t => k_is)))
    (case h_Auction_seat_of => (refine' Z.meth_at (fun _ _ _ _ _ _ us hl => match us, hl with | [_, _], _ => rfl) ?a ?g ?i ?l ?c ?k; (case a => k_is); (case g => k_is); (case i => k_is); (case l => k_is); (case c => k_is); (case k => k_is)))
    (case h_Auction_standing => (refine' Z.meth_at (fun _ _ _ _ _ _ us hl => match us, hl with | [_], _ => rfl) ?a ?g ?i ?l ?c ?k; (case a => k_is); (case g => k_is); (case i => k_is); (case l => k_is); (case c => k_is); (case k => k_is)))
    (case h_side_of => (refine' Z.def_at KX G (fun _ _ _ _ _ _ us hl => match us, hl with | [_, _], _ => rfl) ?a ?l ?c ?k; (case a => k_is); (case l => k_is); (case c => k_is); (case k => k_is)))
    (case h_Auction_contract => (refine' Z.meth_at (fun _ _ _ _ _ _ us hl => match us, hl with | [_], _ => rfl) ?a ?g ?i ?l ?c ?k; (case a => k_is); (case g => k_is); (case i => k_is); (case l => k_is); (case c => k_is); (case k => k_is)))
    (case h_law_right => (refine' Z.def_at KX G (fun _ _ _ _ _ _ us hl => match us, hl with | [_, _], _ => rfl) ?a ?l ?c ?k; (case a => k_is); (case l => k_is); (case c => k_is); (case k => k_is)))
    (case h_law_last => (refine' Z.def_at KX G (fun _ _ _ _ _ _ us hl => match us, hl with | [_], _ => rfl) ?a ?l ?c ?k; (case a => k_is); (case l => k_is); (case c => k_is); (case k => k_is)))
    (case h_law_rank => (refine' Z.def_at KX G (fun _ _ _ _ _ _ us hl => match us, hl with | [_], _ => rfl) ?a ?l ?c ?k; (case a => k_is); (case l => k_is); (case c => k_is); (case k => k_is)))
    (case h_law_own => (refine' Z.def_at KX G (fun _ _ _ _ _ _ us hl => match us, hl with | [_, _, _], _ => rfl) ?a ?l ?c ?k; (case a => k_is); (case l => k_is); (case c => k_is); (case k => k_is)))
    (case h_law_due => (refine' Z.def_at KX G (fun _ _ _ _ _ _ us hl => match us, hl with | [_, _, _], _ => rfl) ?a ?l ?c ?k; (case a => k_is); (case l => k_is); (case c => k_is); (case k => k_is)))
    (case h_law_text => (refine' Z.def_at KX G (fun _ _ _ _ _ _ us hl => match us, hl with | [_], _ => rfl) ?a ?l ?c ?k; (case a => k_is); (case l => k_is); (case c => k_is); (case k => k_is)))
    (case h_law_drawn => (refine' Z.def_at KX G (fun _ _ _ _ _ _ us hl => match us, hl with | [_, _, _, _], _ => rfl) ?a ?l ?c ?k; (case a => k_is); (case l => k_is); (case c => k_is); (case k => k_is)))
    (case h_law_over => (refine' Z.def_at KX G (fun _ _ _ _ _ _ us hl => match us, hl with | [_, _], _ => rfl) ?a ?l ?c ?k; (case a => k_is); (case l => k_is); (case c => k_is); (case k => k_is)))
    (case h_law_stands => (refine' Z.def_at KX G (fun _ _ _ _ _ _ us hl => match us, hl with | [_, _, _], _ => rfl) ?a ?l ?c ?k; (case a => k_is); (case l => k_is); (case c => k_is); (case k => k_is)))
    (case h_read_call => (refine' Z.def_at KX G (fun _ _ _ _ _ _ us hl => match us, hl with | [_], _ => rfl) ?a ?l ?c ?k; (case a => k_is); (case l => k_is); (case c => k_is); (case k => k_is)))
    (case h_Auction_passes => (refine' Z.meth_at (fun _ _ _ _ _ _ us hl => match us, hl with | [_], _ => rfl) ?a ?g ?i ?l ?c ?k; (case a => k_is); (case g => k_is); (case i => k_is); (case l => k_is); (case c => k_is); (case k => k_is)))
    (case h_Auction_is_done => (refine' Z.meth_at (fun _ _ _ _ _ _ us hl => match us, hl with | [_], _ => rfl) ?a ?g ?i ?l ?c ?k; (case a => k_is); (case g => k_is); (case i => k_is); (case l => k_is); (case c => k_is); (case k => k_is)))
    (case h_place_of => (refine' Z.def_at KX G (fun _ _ _ _ _ _ us hl => match us, hl with | [_], _ => rfl) ?a ?l ?c ?k; (case a => k_is); (case l => k_is); (case c => k_is); (case k => k_is)))
    (case h_above => (refine' Z.def_at KX G (fun _ _ _ _ _ _ us hl => match us, hl with | [_, _], _ => rfl) ?a ?l ?c ?k; (case a => k_is); (case l => k_is); (case c => k_is); (case k => k_is)))
    (case h_Auction_turn => (refine' Z.meth_at (fun _ _ _ _ _ _ us hl => match us, hl with | [_], _ => rfl) ?a ?g ?i ?l ?c ?k; (case a => k_is); (case g => k_is); (case i => k_is); (case l => k_is); (case c => k_is); (case k => k_is)))
    (case h_Auction_wrong => (refine' Z.meth_at (fun _ _ _ _ _ _ us hl => match us, hl with | [_, _], _ => rfl) ?a ?g ?i ?l ?c ?k; (case a => k_is); (case g => k_is); (case i => k_is); (case l => k_is); (case c => k_is); (case k => k_is)))
    (case h_Auction_say => (refine' Z.meth_at (fun _ _ _ _ _ _ us hl => match us, hl with | [_, _], _ => rfl) ?a ?g ?i ?l ?c ?k; (case a => k_is); (case g => k_is); (case i => k_is); (case l => k_is); (case c => k_is); (case k => k_is)))
    (case h_law => (refine' Z.def_at KX G (fun _ _ _ _ _ _ us hl => match us, hl with | [_], _ => rfl) ?a ?l ?c ?k; (case a => k_is); (case l => k_is); (case c => k_is); (case k => k_is)))
    (case hF_Auction_many_seats => (refine' Z.noat_at ?a ?n; (case a => k_is); (case n => k_is)))
    (case hF_Auction_begins => (refine' Z.noat_at ?a ?n; (case a => k_is); (case n => k_is)))
    (case hF_Auction_calls => (refine' Z.noat_at ?a ?n; (case a => k_is); (case n => k_is)))
    (case hq_FIGURES => (refine' Z.const_str KX G ?a; (case a => k_is)))
    (case hq_STRAINS => (refine' Z.const_str KX G ?a; (case a => k_is)))
    (case hq_WORDS => (refine' Z.const_tup (l := ["pass", "double", "again"]) KX G ?a ?t ?v ?hs; (case a => k_is); (case t => k_is); (case v => (repeat (first | exact .nil | refine .cons ⟨_, rfl⟩ ?_))); (case hs => decide)))
    (case x_bool => k_is)
    (case x_enumerate => k_is)
    (case x_int => k_is)
    (case x_isinstance => k_is)
    (case x_len => k_is)
    (case x_min => k_is)
    (case x_range => k_is)
    (case x_reversed => k_is)
    (case x_str => k_is)
    (case x_tuple => k_is)
    (case x_zip => k_is)
