import PyProof.Rows.All
import Wide.All
import OpenK.AllK
import Wide.FinOn
import HandS.ForMost
import HandS.ForExc
import HandS.HotCalls
import HandS.Wide
import HandS.TupAny
import HandS.TupSets
import HandS.IsInst
import HandS.Style
import HandS.TupLe
import HandS.SetFor
import HandS.Replace
import HandS.StrMore
import HandS.SortInts
import HandS.Defaults
import HandS.RaiseMore
import HandS.ExcValue
import HandS.ExcIs
import KE.KExcIs
import PyProof.StrBlock2
import KE.GoesEnum
import PyProof.CollectStr
import HandS.NoneIn
import HandS.More
import KE.LtSeq
import PySem.Challenge.RW_trickproof_k06_one_share
set_option Elab.async false
set_option linter.all false
set_option pp.deepTerms false
set_option pp.deepTerms.threshold 9
set_option pp.maxSteps 4000
set_option maxRecDepth 100000
set_option maxHeartbeats 4000000
namespace Z
open PySem L2
open PySem.W (Frag)
open PySem
/-! ## names by number -/
def clsT : List Str := [("Auction" : Str), ("BadPlay" : Str), ("Beat" : Str), ("Cut" : Str), ("Desk" : Str), ("Even" : Str), ("Flat" : Str), ("Follow" : Str), ("Free" : Str), ("Game" : Str), ("NoCall" : Str), ("NoCard" : Str), ("NoDeal" : Str), ("NoHand" : Str), ("NoPlay" : Str), ("NoRecord" : Str), ("NoRow" : Str), ("NoShare" : Str), ("NoSheet" : Str), ("NoTable" : Str), ("NoView" : Str), ("NotNow" : Str), ("NotYet" : Str), ("Play" : Str), ("Rule" : Str), ("Steps" : Str), ("Table" : Str), ("TooMany" : Str), ("TooMuch" : Str), ("TrickError" : Str), ("View" : Str)]
def attT : List Str := [("__init__" : Str), ("all_cards" : Str), ("allowed" : Str), ("append" : Str), ("asked_of" : Str), ("begins" : Str), ("begun_by" : Str), ("best" : Str), ("bit_length" : Str), ("board" : Str), ("called" : Str), ("calling" : Str), ("calls" : Str), ("clear" : Str), ("contract" : Str), ("count" : Str), ("dealt" : Str), ("dealt_out" : Str), ("duty" : Str), ("extend" : Str), ("find" : Str), ("fits" : Str), ("fitting" : Str), ("game" : Str), ("get" : Str), ("heights" : Str), ("index" : Str), ("insert" : Str), ("is_done" : Str), ("is_over" : Str), ("is_sure" : Str), ("join" : Str), ("keys" : Str), ("made" : Str), ("many_seats" : Str), ("may" : Str), ("now" : Str), ("order" : Str), ("own_duty" : Str), ("pack" : Str), ("partition" : Str), ("passes" : Str), ("place" : Str), ("plain_order" : Str), ("played" : Str), ("playing" : Str), ("pointed" : Str), ("points" : Str), ("pop" : Str), ("put" : Str), ("remove" : Str), ("replace" : Str), ("reverse" : Str), ("rjust" : Str), ("row" : Str), ("rule" : Str), ("said" : Str), ("say" : Str), ("seat_of" : Str), ("seats" : Str), ("split" : Str), ("standing" : Str), ("start" : Str), ("strength" : Str), ("suits" : Str), ("table" : Str), ("taken" : Str), ("text" : Str), ("trick" : Str), ("trump" : Str), ("trump_order" : Str), ("turn" : Str), ("upper" : Str), ("winner" : Str), ("won" : Str), ("word" : Str), ("wrong" : Str)]
def clsN (i : Nat) : Str := clsT.getD i "?"
def attN (i : Nat) : Str := attT.getD i "?"
theorem attT_len : attT.length = 77 := rfl
theorem attT_nd : attT.Nodup := by decide +kernel
theorem attN_inj {i j : Nat} (hi : i < 77) (hj : j < 77) (e : attN i = attN j) : i = j := by
  have h1 : i < attT.length := hi
  have h2 : j < attT.length := hj
  unfold attN at e
  unfold List.getD at e
  rw [List.getElem?_eq_getElem h1, List.getElem?_eq_getElem h2] at e
  have e : attT[i] = attT[j] := e
  have nd := List.pairwise_iff_getElem.mp attT_nd
  rcases Nat.lt_trichotomy i j with q | q | q
  · exact absurd e (nd i j h1 h2 q)
  · exact q
  · exact absurd e.symm (nd j i h2 h1 q)
def attB (i : Nat) : Bool := decide (i < 77)
theorem attN_ne {i j : Nat} (hi : attB i = true) (hj : attB j = true) (ne : i ≠ j) : attN i ≠ attN j := fun e => ne (attN_inj (of_decide_eq_true hi) (of_decide_eq_true hj) e)
abbrev c_Auction : Nat := 0
abbrev c_BadPlay : Nat := 1
abbrev c_Beat : Nat := 2
abbrev c_Cut : Nat := 3
abbrev c_Desk : Nat := 4
abbrev c_Even : Nat := 5
abbrev c_Flat : Nat := 6
abbrev c_Follow : Nat := 7
abbrev c_Free : Nat := 8
abbrev c_Game : Nat := 9
abbrev c_NoCall : Nat := 10
abbrev c_NoCard : Nat := 11
abbrev c_NoDeal : Nat := 12
abbrev c_NoHand : Nat := 13
abbrev c_NoPlay : Nat := 14
abbrev c_NoRecord : Nat := 15
abbrev c_NoRow : Nat := 16
abbrev c_NoShare : Nat := 17
abbrev c_NoSheet : Nat := 18
abbrev c_NoTable : Nat := 19
abbrev c_NoView : Nat := 20
abbrev c_NotNow : Nat := 21
abbrev c_NotYet : Nat := 22
abbrev c_Play : Nat := 23
abbrev c_Rule : Nat := 24
abbrev c_Steps : Nat := 25
abbrev c_Table : Nat := 26
abbrev c_TooMany : Nat := 27
abbrev c_TooMuch : Nat := 28
abbrev c_TrickError : Nat := 29
abbrev c_View : Nat := 30
abbrev a_init : Nat := 0
abbrev a_all_cards : Nat := 1
abbrev a_allowed : Nat := 2
abbrev a_append : Nat := 3
abbrev a_asked_of : Nat := 4
abbrev a_begins : Nat := 5
abbrev a_begun_by : Nat := 6
abbrev a_best : Nat := 7
abbrev a_bit_length : Nat := 8
abbrev a_board : Nat := 9
abbrev a_called : Nat := 10
abbrev a_calling : Nat := 11
abbrev a_calls : Nat := 12
abbrev a_clear : Nat := 13
abbrev a_contract : Nat := 14
abbrev a_count : Nat := 15
abbrev a_dealt : Nat := 16
abbrev a_dealt_out : Nat := 17
abbrev a_duty : Nat := 18
abbrev a_extend : Nat := 19
abbrev a_find : Nat := 20
abbrev a_fits : Nat := 21
abbrev a_fitting : Nat := 22
abbrev a_game : Nat := 23
abbrev a_get : Nat := 24
abbrev a_heights : Nat := 25
abbrev a_index : Nat := 26
abbrev a_insert : Nat := 27
abbrev a_is_done : Nat := 28
abbrev a_is_over : Nat := 29
abbrev a_is_sure : Nat := 30
abbrev a_join : Nat := 31
abbrev a_keys : Nat := 32
abbrev a_made : Nat := 33
abbrev a_many_seats : Nat := 34
abbrev a_may : Nat := 35
abbrev a_now : Nat := 36
abbrev a_order : Nat := 37
abbrev a_own_duty : Nat := 38
abbrev a_pack : Nat := 39
abbrev a_partition : Nat := 40
abbrev a_passes : Nat := 41
abbrev a_place : Nat := 42
abbrev a_plain_order : Nat := 43
abbrev a_played : Nat := 44
abbrev a_playing : Nat := 45
abbrev a_pointed : Nat := 46
abbrev a_points : Nat := 47
abbrev a_pop : Nat := 48
abbrev a_put : Nat := 49
abbrev a_remove : Nat := 50
abbrev a_replace : Nat := 51
abbrev a_reverse : Nat := 52
abbrev a_rjust : Nat := 53
abbrev a_row : Nat := 54
abbrev a_rule : Nat := 55
abbrev a_said : Nat := 56
abbrev a_say : Nat := 57
abbrev a_seat_of : Nat := 58
abbrev a_seats : Nat := 59
abbrev a_split : Nat := 60
abbrev a_standing : Nat := 61
abbrev a_start : Nat := 62
abbrev a_strength : Nat := 63
abbrev a_suits : Nat := 64
abbrev a_table : Nat := 65
abbrev a_taken : Nat := 66
abbrev a_text : Nat := 67
abbrev a_trick : Nat := 68
abbrev a_trump : Nat := 69
abbrev a_trump_order : Nat := 70
abbrev a_turn : Nat := 71
abbrev a_upper : Nat := 72
abbrev a_winner : Nat := 73
abbrev a_won : Nat := 74
abbrev a_word : Nat := 75
abbrev a_wrong : Nat := 76
/-- the class above each -/
def parT : List Nat := [0, 29, 24, 24, 4, 24, 24, 24, 24, 9, 29, 29, 29, 29, 29, 29, 29, 29, 29, 29, 29, 29, 29, 23, 24, 24, 26, 29, 29, 29, 30]
def subC (c c' : Nat) : Bool := c == c' || parT.getD c c == c'
def keyT : List Str := [("beat" : Str), ("call" : Str), ("cards" : Str), ("count" : Str), ("cut" : Str), ("duty" : Str), ("follow" : Str), ("free" : Str), ("heights" : Str), ("high" : Str), ("lead" : Str), ("may" : Str), ("plain" : Str), ("play" : Str), ("points" : Str), ("row" : Str), ("rules" : Str), ("seats" : Str), ("size" : Str), ("state" : Str), ("suits" : Str), ("text" : Str), ("trump" : Str), ("turn" : Str), ("unseen" : Str), ("won" : Str)]
def keyN (i : Nat) : Sum Int Str := .inr (keyT.getD i "?")
theorem keyT_nd : keyT.Nodup := by decide +kernel
theorem keyN_inj {i j : Nat} (hi : i < 26) (hj : j < 26) (e : keyN i = keyN j) : i = j := by
  have h1 : i < keyT.length := hi
  have h2 : j < keyT.length := hj
  have e : keyT.getD i "?" = keyT.getD j "?" := Sum.inr.inj e
  unfold List.getD at e
  rw [List.getElem?_eq_getElem h1, List.getElem?_eq_getElem h2] at e
  have e : keyT[i] = keyT[j] := e
  have nd := List.pairwise_iff_getElem.mp keyT_nd
  rcases Nat.lt_trichotomy i j with q | q | q
  · exact absurd e (nd i j h1 h2 q)
  · exact q
  · exact absurd e.symm (nd j i h2 h1 q)
def keyB (i : Nat) : Bool := decide (i < 26)
abbrev y_beat : Nat := 0
abbrev y_call : Nat := 1
abbrev y_cards : Nat := 2
abbrev y_count : Nat := 3
abbrev y_cut : Nat := 4
abbrev y_duty : Nat := 5
abbrev y_follow : Nat := 6
abbrev y_free : Nat := 7
abbrev y_heights : Nat := 8
abbrev y_high : Nat := 9
abbrev y_lead : Nat := 10
abbrev y_may : Nat := 11
abbrev y_plain : Nat := 12
abbrev y_play : Nat := 13
abbrev y_points : Nat := 14
abbrev y_row : Nat := 15
abbrev y_rules : Nat := 16
abbrev y_seats : Nat := 17
abbrev y_size : Nat := 18
abbrev y_state : Nat := 19
abbrev y_suits : Nat := 20
abbrev y_text : Nat := 21
abbrev y_trump : Nat := 22
abbrev y_turn : Nat := 23
abbrev y_unseen : Nat := 24
abbrev y_won : Nat := 25

/-! ## 1. data without a heap -/
inductive D where
  | non | bl (b : Bool) | int (i : Int) | str (s : Str) | tup (xs : List D) | lst (m : Nat) (xs : List D)
  | obj (C : Nat) (ns : List Nat) (ds : List D) | ty (n : String) | adr (a : Addr)
  | dct (m : Nat) (ks : List Nat) (ds : List D) | exc (c : Nat) (ns : List Nat) (ds : List D)
/-- a list that the program's own top holds -/
def KL (K : Frag) (a : Addr) (xs : List V) : Prop :=
  ∃ (o : Obj) (its : Array Value) (n : Nat), K.lookup a = some o ∧ o.cls = .type "list" ∧ o.dict = none ∧ o.data = .seq its n ∧ its.size ≤ sizeLine ∧ Vals xs its.toList
/-- the class with number x stands at C -/
def ClsAt (K : Frag) (x : Nat) (C : Addr) : Prop := PySem.W.nsIn K mainGlobals (clsN x) = some (some (.ref C))
theorem ClsAt.eq {K : Frag} {x : Nat} {C D : Addr} (h : ClsAt K x C) (g : ClsAt K x D) : C = D := by
  have := Eq.trans (Eq.symm h) g
  cases this; rfl
mutual
/-- v is the datum d at H: all lists in it stand still (m = 0 frozen, 1 lent, 2 of the top); G: the addresses that are lent -/
inductive DR (K : Frag) (G : Addr → Prop) (H : Hp) : V → D → Prop
  | non : DR K G H .non .non
  | bl (b : Bool) : DR K G H (.bl b) (.bl b)
  | int (i : Int) : DR K G H (.int i) (.int i)
  | str (s : Str) : DR K G H (.str s) (.str s)
  | ty (n : String) : DR K G H (.ty n) (.ty n)
  | adr (a : Addr) : DR K G H (.ref a) (.adr a)
  | tup {a : Addr} {xs : List V} {ds : List D} : SqT K H a xs → DRs K G H xs ds → DR K G H (.ref a) (.tup ds)
  | lst0 {a : Addr} {o : Obj} {xs : List V} {ds : List D} : H a = some (.frz o (.lst xs)) → ¬ G a → DRs K G H xs ds → DR K G H (.ref a) (.lst 0 ds)
  | lst1 {a : Addr} {o : Obj} {xs : List V} {ds : List D} : H a = some (.frz o (.lst xs)) → G a → DRs K G H xs ds → DR K G H (.ref a) (.lst 1 ds)
  | lst2 {a : Addr} {xs : List V} {ds : List D} : KL K a xs → DRs K G H xs ds → DR K G H (.ref a) (.lst 2 ds)
  | obj {a C dx : Addr} {x : Nat} {o : Obj} {fvs : List (Str × V)} {ns : List Nat} {ds : List D} : ClsAt K x C → H a = some (.frz o (.ins C dx fvs)) → fvs.map (·.1) = ns.map attN → DRs K G H (fvs.map (·.2)) ds → DR K G H (.ref a) (.obj x ns ds)
  | dct0 {a : Addr} {o : Obj} {kvs : List (Key × V)} {ks : List Nat} {ds : List D} : H a = some (.frz o (.dK kvs)) → ¬ G a → kvs.map (·.1) = ks.map keyN → DRs K G H (kvs.map (·.2)) ds → DR K G H (.ref a) (.dct 0 ks ds)
  | dct1 {a : Addr} {o : Obj} {kvs : List (Key × V)} {ks : List Nat} {ds : List D} : H a = some (.frz o (.dK kvs)) → G a → kvs.map (·.1) = ks.map keyN → DRs K G H (kvs.map (·.2)) ds → DR K G H (.ref a) (.dct 1 ks ds)
  | exc {a C : Addr} {oe : Obj} {φ : Heap → Prop} {x : Nat} {fvs : List (Str × V)} {ns : List Nat} {ds : List D} : ClsAt K x C → H a = some (.frz oe (.ext φ)) → oe.cls = .ref C → (∃ vs, oe.data = .fields vs) →
    (oe.dict = none ∧ fvs = [] ∨ ∃ p, oe.dict = some p ∧ H p = some (.xd fvs)) → fvs.map (·.1) = ns.map attN → DRs K G H (fvs.map (·.2)) ds → DR K G H (.ref a) (.exc x ns ds)
inductive DRs (K : Frag) (G : Addr → Prop) (H : Hp) : List V → List D → Prop
  | nil : DRs K G H [] []
  | cons {v : V} {d : D} {vs : List V} {ds : List D} : DR K G H v d → DRs K G H vs ds → DRs K G H (v :: vs) (d :: ds)
end
/-- what never changes is kept -/
structure Kp (H H' : Hp) : Prop where
  frz : ∀ a o u, H a = some (.frz o u) → H' a = some (.frz o u)
  tup : ∀ a xs, H a = some (.tup xs) → H' a = some (.tup xs)
  xd : ∀ a fs, H a = some (.xd fs) → H' a = some (.xd fs)
theorem Kp.refl (H : Hp) : Kp H H := ⟨fun _ _ _ h => h, fun _ _ h => h, fun _ _ h => h⟩
theorem Kp.trans {H H1 H2 : Hp} (a : Kp H H1) (b : Kp H1 H2) : Kp H H2 := ⟨fun x o u h => b.frz x o u (a.frz x o u h), fun x xs h => b.tup x xs (a.tup x xs h), fun x xs h => b.xd x xs (a.xd x xs h)⟩
theorem Kp.of {H H' : Hp} (s : Same H H') : Kp H H' := ⟨fun a _ _ h => s a _ h, fun a _ h => s a _ h, fun a _ h => s a _ h⟩
/-- an object that may be written is written -/
theorem Kp.upd {H : Hp} {a : Addr} {o u : HO} (h : H a = some o) (m : Mut (some o)) : Kp H (upd H a u) := by
  refine ⟨fun b w x e => ?_, fun b xs e => ?_, fun b xs e => ?_⟩ <;> (rw [upd_ne (fun q => by subst q; rw [h] at e; cases e; exact m)]; exact e)
section
variable {K : Frag} {G G' : Addr → Prop} {H H' : Hp}
theorem sqT_kp (k : Kp H H') {a : Addr} {xs : List V} (h : SqT K H a xs) : SqT K H' a xs := by
  rcases h with (h | ⟨o, h⟩) | h
  · exact .inl (.inl (k.tup _ _ h))
  · exact .inl (.inr ⟨o, k.frz _ _ _ h⟩)
  · exact .inr h
mutual
theorem DR.kp (k : Kp H H') : ∀ {d : D} {v : V}, DR K G H v d → DR K G H' v d
  | .non, _, h => by cases h; exact .non
  | .bl b, _, h => by cases h; exact .bl b
  | .int i, _, h => by cases h; exact .int i
  | .str s, _, h => by cases h; exact .str s
  | .ty n, _, h => by cases h; exact .ty n
  | .adr a, _, h => by cases h; exact .adr a
  | .tup ds, _, h => by cases h with | tup a b => exact .tup (sqT_kp k a) (DRs.kp k b)
  | .lst m ds, _, h => by
    cases h with
    | lst0 a g b => exact .lst0 (k.frz _ _ _ a) g (DRs.kp k b)
    | lst1 a g b => exact .lst1 (k.frz _ _ _ a) g (DRs.kp k b)
    | lst2 a b => exact .lst2 a (DRs.kp k b)
  | .obj C ns ds, _, h => by cases h with | obj c a e b => exact .obj c (k.frz _ _ _ a) e (DRs.kp k b)
  | .dct m ks ds, _, h => by
    cases h with
    | dct0 a g e b => exact .dct0 (k.frz _ _ _ a) g e (DRs.kp k b)
    | dct1 a g e b => exact .dct1 (k.frz _ _ _ a) g e (DRs.kp k b)
  | .exc C ns ds, _, h => by cases h with | exc c a e f x n b => exact .exc c (k.frz _ _ _ a) e f (x.imp (fun q => q) fun ⟨p, h1, h2⟩ => ⟨p, h1, k.xd _ _ h2⟩) n (DRs.kp k b)
theorem DRs.kp (k : Kp H H') : ∀ {ds : List D} {vs : List V}, DRs K G H vs ds → DRs K G H' vs ds
  | [], _, h => by cases h; exact .nil
  | d :: ds, _, h => by cases h with | cons a b => exact .cons (DR.kp k a) (DRs.kp k b)
end
theorem DRs.length : ∀ {ds : List D} {vs : List V}, DRs K G H vs ds → vs.length = ds.length
  | [], _, h => by cases h; rfl
  | d :: ds, _, h => by cases h with | cons a b => simp [DRs.length b]
theorem DRs.append : ∀ {ds es : List D} {vs ws : List V}, DRs K G H vs ds → DRs K G H ws es → DRs K G H (vs ++ ws) (ds ++ es)
  | [], _, _, _, h, g => by cases h; exact g
  | d :: ds, _, _, _, h, g => by cases h with | cons a b => exact .cons a (DRs.append b g)
theorem DRs.get : ∀ {ds : List D} {vs : List V} {i : Nat} {d : D}, DRs K G H vs ds → ds[i]? = some d → ∃ v, vs[i]? = some v ∧ DR K G H v d
  | [], _, _, _, h, e => by simp at e
  | d :: ds, _, 0, _, h, e => by cases h with | cons a b => simp at e; subst e; exact ⟨_, rfl, a⟩
  | d :: ds, _, i + 1, _, h, e => by
    cases h with | cons a b =>
    obtain ⟨v, h1, h2⟩ := DRs.get (i := i) b (by simpa using e)
    exact ⟨v, by simpa using h1, h2⟩
theorem DRs.get' : ∀ {ds : List D} {vs : List V} {i : Nat} {v : V}, DRs K G H vs ds → vs[i]? = some v → ∃ d, ds[i]? = some d ∧ DR K G H v d
  | [], _, _, _, h, e => by cases h; simp at e
  | d :: ds, _, 0, _, h, e => by cases h with | cons a b => simp at e; subst e; exact ⟨_, rfl, a⟩
  | d :: ds, _, i + 1, _, h, e => by
    cases h with | cons a b =>
    obtain ⟨v, h1, h2⟩ := DRs.get' (i := i) b (by simpa using e)
    exact ⟨v, by simpa using h1, h2⟩
theorem DRs.take : ∀ {ds : List D} {vs : List V} (n : Nat), DRs K G H vs ds → DRs K G H (vs.take n) (ds.take n)
  | _, _, 0, _ => by simpa using DRs.nil
  | [], _, n + 1, h => by cases h; simpa using DRs.nil
  | d :: ds, _, n + 1, h => by cases h with | cons a b => exact .cons a (DRs.take n b)
theorem DRs.drop : ∀ {ds : List D} {vs : List V} (n : Nat), DRs K G H vs ds → DRs K G H (vs.drop n) (ds.drop n)
  | _, _, 0, h => by simpa using h
  | [], _, n + 1, h => by cases h; simpa using DRs.nil
  | d :: ds, _, n + 1, h => by cases h with | cons a b => simpa using DRs.drop n b
theorem DRs.set {v : V} {d : D} (r : DR K G H v d) : ∀ {ds : List D} {vs : List V} (n : Nat), DRs K G H vs ds → DRs K G H (vs.set n v) (ds.set n d)
  | [], _, n, h => by cases h; simpa using DRs.nil
  | _ :: ds, _, 0, h => by cases h with | cons a b => exact .cons r b
  | _ :: ds, _, n + 1, h => by cases h with | cons a b => exact .cons a (DRs.set r n b)
theorem DRs.ints : ∀ {ns : List Int} {vs : List V}, DRs K G H vs (ns.map D.int) → vs = ns.map V.int
  | [], _, h => by cases h; rfl
  | n :: ns, _, h => by cases h with | cons a b => cases a; rw [DRs.ints b]; rfl
theorem DRs.of_ints : ∀ (ns : List Int), DRs K G H (ns.map V.int) (ns.map D.int)
  | [] => .nil
  | n :: ns => .cons (.int n) (DRs.of_ints ns)
theorem DRs.strs : ∀ {ns : List Str} {vs : List V}, DRs K G H vs (ns.map D.str) → vs = ns.map V.str
  | [], _, h => by cases h; rfl
  | n :: ns, _, h => by cases h with | cons a b => cases a; rw [DRs.strs b]; rfl
theorem DRs.of_strs : ∀ (ns : List Str), DRs K G H (ns.map V.str) (ns.map D.str)
  | [] => .nil
  | n :: ns => .cons (.str n) (DRs.of_strs ns)
/-! no lent list in it -/
mutual
def D.nb : D → Bool
  | .tup xs => D.nbs xs
  | .lst m xs => m != 1 && D.nbs xs
  | .dct m _ xs => m != 1 && D.nbs xs
  | .exc _ _ ds => D.nbs ds
  | .obj _ _ ds => D.nbs ds
  | _ => true
def D.nbs : List D → Bool
  | [] => true
  | d :: ds => d.nb && D.nbs ds
end
end
/-! ## 2. what a name owns -/
inductive O where
  | pure (d : D) | lst (xs : List D) | ins (a : Addr) (C : Nat) (ns : List Nat) (os : List O) | dct (ks : List Nat) (ds : List D)
mutual
/-- v is o; as: the addresses that are owned with it -/
inductive OR (K : Frag) (G : Addr → Prop) (H : Hp) : V → O → List Addr → Prop
  | pure {v : V} {d : D} : DR K G H v d → OR K G H v (.pure d) []
  | lst {a : Addr} {xs : List V} {ds : List D} : H a = some (.lst xs) → DRs K G H xs ds → OR K G H (.ref a) (.lst ds) [a]
  | dct {a : Addr} {kvs : List (Key × V)} {ks : List Nat} {ds : List D} : H a = some (.dK kvs) → kvs.map (·.1) = ks.map keyN → DRs K G H (kvs.map (·.2)) ds → OR K G H (.ref a) (.dct ks ds) [a]
  | ins {a C dx : Addr} {x : Nat} {fvs : List (Str × V)} {ns : List Nat} {os : List O} {as : List Addr} : ClsAt K x C → H a = some (.ins C dx fvs) → fvs.map (·.1) = ns.map attN → ORs K G H (fvs.map (·.2)) os as → OR K G H (.ref a) (.ins a x ns os) (a :: as)
inductive ORs (K : Frag) (G : Addr → Prop) (H : Hp) : List V → List O → List Addr → Prop
  | nil : ORs K G H [] [] []
  | cons {v : V} {o : O} {vs : List V} {os : List O} {as bs : List Addr} : OR K G H v o as → ORs K G H vs os bs → ORs K G H (v :: vs) (o :: os) (as ++ bs)
end
section
variable {K : Frag} {G G' : Addr → Prop} {H H' : Hp}
mutual
theorem OR.kp (k : Kp H H') : ∀ {o : O} {v : V} {as : List Addr}, OR K G H v o as → (∀ a ∈ as, H' a = H a) → OR K G H' v o as
  | .pure d, _, _, h, _ => by cases h with | pure a => exact .pure (a.kp k)
  | .lst ds, _, _, h, q => by cases h with | lst a b => exact .lst (by rw [q _ (by simp)]; exact a) (b.kp k)
  | .dct ks ds, _, _, h, q => by cases h with | dct a e b => exact .dct (by rw [q _ (by simp)]; exact a) e (b.kp k)
  | .ins a0 C ns os, _, _, h, q => by
    cases h with
    | ins c a e b => exact .ins c (by rw [q _ (by simp)]; exact a) e (ORs.kp k b fun x hx => q x (List.mem_cons_of_mem _ hx))
theorem ORs.kp (k : Kp H H') : ∀ {os : List O} {vs : List V} {as : List Addr}, ORs K G H vs os as → (∀ a ∈ as, H' a = H a) → ORs K G H' vs os as
  | [], _, _, h, _ => by cases h; exact .nil
  | o :: os, _, _, h, q => by
    cases h with
    | cons a b => exact .cons (OR.kp k a fun x hx => q x (List.mem_append_left _ hx)) (ORs.kp k b fun x hx => q x (List.mem_append_right _ hx))
end
mutual
/-- an owned address bears something that may be written -/
theorem OR.there : ∀ {o : O} {v : V} {as : List Addr}, OR K G H v o as → ∀ a ∈ as, Mut (H a) ∧ ∃ u, H a = some u
  | .pure d, _, _, h => by cases h; intro a ha; simp at ha
  | .lst ds, _, _, h => by
    cases h with
    | lst a b => intro x hx; simp at hx; subst hx; rw [a]; exact ⟨trivial, _, rfl⟩
  | .dct ks ds, _, _, h => by
    cases h with
    | dct a e b => intro x hx; simp at hx; subst hx; rw [a]; exact ⟨trivial, _, rfl⟩
  | .ins a0 C ns os, _, _, h => by
    cases h with
    | ins c a e b =>
      intro x hx
      rcases List.mem_cons.mp hx with rfl | hx
      · rw [a]; exact ⟨trivial, _, rfl⟩
      · exact ORs.there b x hx
theorem ORs.there : ∀ {os : List O} {vs : List V} {as : List Addr}, ORs K G H vs os as → ∀ a ∈ as, Mut (H a) ∧ ∃ u, H a = some u
  | [], _, _, h => by cases h; intro a ha; simp at ha
  | o :: os, _, _, h => by
    cases h with
    | cons a b =>
      intro x hx
      rcases List.mem_append.mp hx with hx | hx
      · exact OR.there a x hx
      · exact ORs.there b x hx
end
mutual
def O.nb : O → Bool
  | .pure d => d.nb
  | .lst ds => D.nbs ds
  | .dct _ ds => D.nbs ds
  | .ins _ _ _ os => O.nbs os
def O.nbs : List O → Bool
  | [] => true
  | o :: os => o.nb && O.nbs os
end
end

abbrev SS := List (Option O)
inductive RV where
  | d (x : D) | loc (i : Nat) | new (o : O)
structure Own (K : Frag) (G : Addr → Prop) (B : Hp) (N : List Addr) (A : Nat → List Addr) (σ : St) (H : Hp) (ss : SS) : Prop where
  at_ : ∀ (i : Nat) (o : O), ss[i]? = some (some o) → ∃ v, σ[i]? = some (some v) ∧ OR K G H v o (A i)
  nd : ∀ i, (A i).Nodup
  ap : ∀ i j a, a ∈ A i → a ∈ A j → i = j
  fr : ∀ i a, a ∈ A i → B a = none ∧ a ∉ N
  off : ∀ (i : Nat), (∀ o, ss[i]? ≠ some (some o)) → A i = []
/-- the state by slots: B is kept, N is held back (made, in nobody's hands yet) -/
structure Sm (K : Frag) (G : Addr → Prop) (B : Hp) (N : List Addr) (σ : St) (H : Hp) (ss : SS) : Prop where
  keep : Same B H
  own : ∃ A, Own K G B N A σ H ss
  nn : ∀ a ∈ N, B a = none
  gb : ∀ a, G a → ∃ o, B a = some o
  len : ss.length = σ.length
section
variable {K : Frag} {G : Addr → Prop} {B : Hp} {N : List Addr} {σ : St} {H H' : Hp} {ss : SS}
theorem Own.there {A : Nat → List Addr} (W : Own K G B N A σ H ss) {i : Nat} {a : Addr} (h : a ∈ A i) : Mut (H a) ∧ ∃ u, H a = some u := by
  by_cases q : ∃ o, ss[i]? = some (some o)
  · obtain ⟨o, e⟩ := q
    obtain ⟨v, _, r⟩ := W.at_ i o e
    exact r.there a h
  · rw [W.off i fun o e => q ⟨o, e⟩] at h
    simp at h
theorem Sm.same (S : Sm K G B N σ H ss) (k : Same H H') : Sm K G B N σ H' ss := by
  obtain ⟨A, W⟩ := S.own
  refine ⟨S.keep.trans k, ⟨A, fun i o e => ?_, W.nd, W.ap, W.fr, W.off⟩, S.nn, S.gb, S.len⟩
  obtain ⟨v, e1, r⟩ := W.at_ i o e
  refine ⟨v, e1, r.kp (Kp.of k) fun a ha => ?_⟩
  obtain ⟨_, u, hu⟩ := r.there a ha
  rw [hu, k _ _ hu]
theorem Sm.weak (S : Sm K G B N σ H ss) : Sm K G B [] σ H ss := by
  obtain ⟨A, W⟩ := S.own
  exact ⟨S.keep, ⟨A, W.at_, W.nd, W.ap, fun i a h => ⟨(W.fr i a h).1, by simp⟩, W.off⟩, fun a h => by simp at h, S.gb, S.len⟩
/-- new objects at N -/
theorem Sm.alloc (S : Sm K G B [] σ H ss) (k : Same H H') (n : ∀ a ∈ N, H a = none) : Sm K G B N σ H' ss := by
  have S' := S.same k
  obtain ⟨A, W⟩ := S.own
  obtain ⟨A', W'⟩ := S'.own
  refine ⟨S'.keep, ⟨A, fun i o e => ?_, W.nd, W.ap, fun i a h => ⟨(W.fr i a h).1, fun q => ?_⟩, W.off⟩, fun a h => ?_, S.gb, S.len⟩
  · obtain ⟨v, e1, r⟩ := W.at_ i o e
    refine ⟨v, e1, r.kp (Kp.of k) fun a ha => ?_⟩
    obtain ⟨_, u, hu⟩ := r.there a ha
    rw [hu, k _ _ hu]
  · obtain ⟨_, u, hu⟩ := W.there h
    rw [n a q] at hu; cases hu
  · cases e : B a with
    | none => rfl
    | some o => have := S.keep a o e; rw [n a h] at this; cases this
theorem Sm.fresh (S : Sm K G B N σ H ss) {a : Addr} (h : H a = none) : B a = none := by
  cases e : B a with
  | none => rfl
  | some o => have := S.keep a o e; rw [h] at this; cases this
theorem Sm.get (S : Sm K G B N σ H ss) {i : Nat} {o : O} (h : ss[i]? = some (some o)) : ∃ v as, σ[i]? = some (some v) ∧ OR K G H v o as := by
  obtain ⟨A, W⟩ := S.own
  obtain ⟨v, e, r⟩ := W.at_ i o h
  exact ⟨v, _, e, r⟩
theorem Sm.pure (S : Sm K G B N σ H ss) {i : Nat} {d : D} (h : ss[i]? = some (some (.pure d))) : ∃ v, σ[i]? = some (some v) ∧ DR K G H v d := by
  obtain ⟨v, as, e, r⟩ := S.get h
  cases r with | pure r => exact ⟨v, e, r⟩
theorem Sm.list (S : Sm K G B N σ H ss) {i : Nat} {ds : List D} (h : ss[i]? = some (some (.lst ds))) : ∃ a xs, σ[i]? = some (some (.ref a)) ∧ H a = some (.lst xs) ∧ DRs K G H xs ds := by
  obtain ⟨v, as, e, r⟩ := S.get h
  cases r with | lst h1 h2 => exact ⟨_, _, e, h1, h2⟩
theorem get_set {α : Type} {l : List α} {i j : Nat} {x y : α} (h : (l.set i x)[j]? = some y) : (j = i ∧ y = x) ∨ (j ≠ i ∧ l[j]? = some y) := by
  by_cases e : i = j
  · subst e
    by_cases hl : i < l.length
    · rw [List.getElem?_set_self hl] at h; cases h; exact .inl ⟨rfl, rfl⟩
    · rw [List.getElem?_eq_none (by simpa using hl)] at h; cases h
  · rw [List.getElem?_set_ne e] at h
    exact .inr ⟨fun q => e q.symm, h⟩
/-- what is held back goes to a slot -/
theorem Sm.set {i : Nat} {v : V} {o : O} {as : List Addr} (S : Sm K G B as σ H ss) (r : OR K G H v o as) (nd : as.Nodup) (hi : i < ss.length) : Sm K G B [] (σ.set i (some v)) H (ss.set i (some o)) := by
  obtain ⟨A, W⟩ := S.own
  have hi2 : i < σ.length := by rw [← S.len]; exact hi
  refine ⟨S.keep, ⟨fun j => if j = i then as else A j, fun j u e => ?_, fun j => ?_, fun j k a h1 h2 => ?_, fun j a h => ?_, fun j q => ?_⟩, fun a h => by simp at h, S.gb, by simp [S.len]⟩
  · rcases get_set e with ⟨rfl, q⟩ | ⟨ne, q⟩
    · injection q with q; subst q
      refine ⟨v, by rw [List.getElem?_set_self hi2], ?_⟩
      rw [if_pos rfl]; exact r
    · obtain ⟨w, e1, r1⟩ := W.at_ j u q
      refine ⟨w, by rw [List.getElem?_set_ne (Ne.symm ne)]; exact e1, ?_⟩
      rw [if_neg ne]; exact r1
  · by_cases e : j = i
    · simp only [if_pos e]; exact nd
    · simp only [if_neg e]; exact W.nd j
  · by_cases e : j = i
    · by_cases e2 : k = i
      · rw [e, e2]
      · simp only [if_pos e, if_neg e2] at h1 h2
        exact absurd h1 (W.fr k a h2).2
    · by_cases e2 : k = i
      · simp only [if_neg e, if_pos e2] at h1 h2
        exact absurd h2 (W.fr j a h1).2
      · simp only [if_neg e, if_neg e2] at h1 h2
        exact W.ap j k a h1 h2
  · by_cases e : j = i
    · simp only [if_pos e] at h; exact ⟨S.nn a h, by simp⟩
    · simp only [if_neg e] at h; exact ⟨(W.fr j a h).1, by simp⟩
  · by_cases e : j = i
    · exact absurd (by rw [e, List.getElem?_set_self hi]) (q o)
    · simp only [if_neg e]
      exact W.off j fun u h => q u (by rw [List.getElem?_set_ne (Ne.symm e)]; exact h)
theorem Sm.setD {i : Nat} {v : V} {d : D} (S : Sm K G B [] σ H ss) (r : DR K G H v d) (hi : i < ss.length) : Sm K G B [] (σ.set i (some v)) H (ss.set i (some (.pure d))) :=
  S.set (.pure r) List.nodup_nil hi
/-- what is held back is frozen -/
theorem Sm.frz {a : Addr} {u : HO} {od : Obj} (S : Sm K G B [a] σ H ss) (h : H a = some u) (mu : Mut (some u)) : Sm K G B [] σ (upd H a (.frz od u)) ss ∧ Kp H (upd H a (.frz od u)) := by
  obtain ⟨A, W⟩ := S.own
  have kp : Kp H (upd H a (.frz od u)) := Kp.upd h mu
  refine ⟨⟨fun b o e => ?_, ⟨A, fun i o e => ?_, W.nd, W.ap, fun i b hb => ⟨(W.fr i b hb).1, by simp⟩, W.off⟩, fun b hb => by simp at hb, S.gb, S.len⟩, kp⟩
  · rw [upd_ne (fun q => by subst q; rw [S.nn b (by simp)] at e; cases e)]
    exact S.keep b o e
  · obtain ⟨v, e1, r⟩ := W.at_ i o e
    exact ⟨v, e1, r.kp kp fun b hb => upd_ne fun q => (W.fr i b hb).2 (by simp [q])⟩
/-- a slot is forgotten -/
theorem Sm.drop (S : Sm K G B [] σ H ss) (i : Nat) : Sm K G B [] σ H (ss.set i none) := by
  obtain ⟨A, W⟩ := S.own
  refine ⟨S.keep, ⟨fun j => if j = i then [] else A j, fun j u e => ?_, fun j => ?_, fun j k a h1 h2 => ?_, fun j a h => ?_, fun j q => ?_⟩, fun a h => by simp at h, S.gb, by simp [S.len]⟩
  · rcases get_set e with ⟨rfl, q⟩ | ⟨ne, q⟩
    · cases q
    · obtain ⟨w, e1, r1⟩ := W.at_ j u q
      exact ⟨w, e1, by rw [if_neg ne]; exact r1⟩
  · by_cases e : j = i
    · simp only [if_pos e]; exact List.nodup_nil
    · simp only [if_neg e]; exact W.nd j
  · by_cases e : j = i
    · simp only [if_pos e] at h1; simp at h1
    · by_cases e2 : k = i
      · simp only [if_pos e2] at h2; simp at h2
      · simp only [if_neg e, if_neg e2] at h1 h2
        exact W.ap j k a h1 h2
  · by_cases e : j = i
    · simp only [if_pos e] at h; simp at h
    · simp only [if_neg e] at h; exact W.fr j a h
  · by_cases e : j = i
    · simp only [if_pos e]
    · simp only [if_neg e]
      exact W.off j fun u h => q u (by rw [List.getElem?_set_ne (Ne.symm e)]; exact h)
/-- a slot gives away what it owns: held back now -/
theorem Sm.take (S : Sm K G B [] σ H ss) {i : Nat} {o : O} (h : ss[i]? = some (some o)) : ∃ v as, σ[i]? = some (some v) ∧ OR K G H v o as ∧ as.Nodup ∧ Sm K G B as σ H (ss.set i none) := by
  obtain ⟨A, W⟩ := S.own
  obtain ⟨v, e, r⟩ := W.at_ i o h
  refine ⟨v, A i, e, r, W.nd i, S.keep, ⟨fun j => if j = i then [] else A j, fun j u e => ?_, fun j => ?_, fun j k a h1 h2 => ?_, fun j a h => ?_, fun j q => ?_⟩, fun a h => (W.fr i a h).1, S.gb, by simp [S.len]⟩
  · rcases get_set e with ⟨rfl, q⟩ | ⟨ne, q⟩
    · cases q
    · obtain ⟨w, e1, r1⟩ := W.at_ j u q
      exact ⟨w, e1, by rw [if_neg ne]; exact r1⟩
  · by_cases e : j = i
    · simp only [if_pos e]; exact List.nodup_nil
    · simp only [if_neg e]; exact W.nd j
  · by_cases e : j = i
    · simp only [if_pos e] at h1; simp at h1
    · by_cases e2 : k = i
      · simp only [if_pos e2] at h2; simp at h2
      · simp only [if_neg e, if_neg e2] at h1 h2
        exact W.ap j k a h1 h2
  · by_cases e : j = i
    · simp only [if_pos e] at h; simp at h
    · simp only [if_neg e] at h; exact ⟨(W.fr j a h).1, fun q => e (W.ap j i a h q)⟩
  · by_cases e : j = i
    · simp only [if_pos e]
    · simp only [if_neg e]
      exact W.off j fun u h => q u (by rw [List.getElem?_set_ne (Ne.symm e)]; exact h)
/-- a slot gets back what was taken, changed perhaps: σ as it is -/
theorem Sm.put {i : Nat} {v : V} {o : O} {as : List Addr} (S : Sm K G B as σ H ss) (hv : σ[i]? = some (some v)) (r : OR K G H v o as) (nd : as.Nodup) : Sm K G B [] σ H (ss.set i (some o)) := by
  obtain ⟨hi, e⟩ := List.getElem?_eq_some_iff.mp hv
  have q := S.set (i := i) (v := v) r nd (by rw [S.len]; exact hi)
  have e2 : σ.set i (some v) = σ := by rw [← e]; exact List.set_getElem_self hi
  rw [e2] at q
  exact q
/-- the list of a slot is written -/
theorem Sm.wr (S : Sm K G B [] σ H ss) {i : Nat} {ds : List D} (h : ss[i]? = some (some (.lst ds))) : ∃ a xs, σ[i]? = some (some (.ref a)) ∧ H a = some (.lst xs) ∧ DRs K G H xs ds ∧
    ∀ xs' ds', DRs K G H xs' ds' → Sm K G B [] σ (upd H a (.lst xs')) (ss.set i (some (.lst ds'))) := by
  obtain ⟨v, as, e, r, nd, S1⟩ := S.take h
  cases r with
  | @lst a xs _ h1 h2 =>
    refine ⟨a, xs, e, h1, h2, fun xs' ds' r' => ?_⟩
    have kp : Kp H (upd H a (.lst xs')) := Kp.upd h1 trivial
    have S2 : Sm K G B [a] σ (upd H a (.lst xs')) (ss.set i none) := by
      obtain ⟨A, W⟩ := S1.own
      refine ⟨fun b o eb => ?_, ⟨A, fun j o eb => ?_, W.nd, W.ap, W.fr, W.off⟩, S1.nn, S1.gb, S1.len⟩
      · rw [upd_ne (ne_of_none eb (S1.nn a (by simp)))]
        exact S1.keep b o eb
      · obtain ⟨w, e1, r1⟩ := W.at_ j o eb
        exact ⟨w, e1, r1.kp kp fun b hb => upd_ne fun q => (W.fr j b hb).2 (by simp [q])⟩
    have S3 := S2.put (o := .lst ds') e (.lst upd_same (r'.kp kp)) (by simp)
    rw [List.set_set] at S3
    exact S3
end
/-! ## what an expression gives -/
/-- what is made by a step from H to H' -/
def RS (K : Frag) (G : Addr → Prop) (H H' : Hp) (v : V) : RV → Prop
  | .d x => Same H H' ∧ DR K G H' v x
  | .new o => ∃ as, Same H H' ∧ OR K G H' v o as ∧ as.Nodup ∧ ∀ a ∈ as, H a = none
  | .loc _ => False
def RR (K : Frag) (G : Addr → Prop) (B : Hp) (σ : St) (H : Hp) (ss : SS) (v : V) : RV → Prop
  | .d x => Sm K G B [] σ H ss ∧ DR K G H v x
  | .loc i => Sm K G B [] σ H ss ∧ σ[i]? = some (some v)
  | .new o => ∃ as, Sm K G B as σ H ss ∧ OR K G H v o as ∧ as.Nodup
section
variable {K : Frag} {G : Addr → Prop} {B : Hp} {N : List Addr} {σ : St} {H H' : Hp} {ss : SS} {v : V} {r : RV}
theorem RR.sem (h : RR K G B σ H ss v r) : Sm K G B [] σ H ss := by
  cases r with
  | d x => exact h.1
  | loc i => exact h.1
  | new o => obtain ⟨as, S, _⟩ := h; exact S.weak
theorem RS.same (h : RS K G H H' v r) : Same H H' := by
  cases r with
  | d x => exact h.1
  | loc i => exact h.elim
  | new o => obtain ⟨as, S, _⟩ := h; exact S
theorem RS.rr (S : Sm K G B [] σ H ss) (h : RS K G H H' v r) : RR K G B σ H' ss v r := by
  cases r with
  | d x => exact ⟨S.same h.1, h.2⟩
  | loc i => exact h.elim
  | new o => obtain ⟨as, k, ro, nd, n⟩ := h; exact ⟨as, S.alloc k n, ro, nd⟩
end
abbrev ZT := SS → (RV → SS → Prop) → Prop
abbrev ZTD := SS → (D → SS → Prop) → Prop
abbrev ZTB := SS → (Bool → SS → Prop) → Prop
abbrev ZTA := SS → (List RV → SS → Prop) → Prop
/-- te does what t says -/
def Zr (K : Frag) (G : Addr → Prop) (B : Hp) (te : TE) (t : ZT) : Prop := ∀ (σ : St) (H : Hp) (ss : SS) (Q : RV → SS → Prop) (R : VK), Sm K G B [] σ H ss → t ss Q →
  (∀ v H' r ss', Kp H H' → RR K G B σ H' ss' v r → Q r ss' → R v H') → te σ H R
def ZE (X : Cx) (G : Addr → Prop) (B : Hp) (e : Expr) (t : ZT) : Prop := ∃ te, PE X e te ∧ Zr X.K G B te t
/-- a value that may go into other things: a datum -/
def ZrD (K : Frag) (G : Addr → Prop) (B : Hp) (te : TE) (t : ZTD) : Prop := ∀ (σ : St) (H : Hp) (ss : SS) (Q : D → SS → Prop) (R : VK), Sm K G B [] σ H ss → t ss Q →
  (∀ v H' d ss', Kp H H' → Sm K G B [] σ H' ss' → DR K G H' v d → Q d ss' → R v H') → te σ H R
def ZD (X : Cx) (G : Addr → Prop) (B : Hp) (e : Expr) (t : ZTD) : Prop := ∃ te, PE X e te ∧ ZrD X.K G B te t
/-- a test -/
def ZrB (K : Frag) (G : Addr → Prop) (B : Hp) (te : TT) (t : ZTB) : Prop := ∀ (σ : St) (H : Hp) (ss : SS) (Q : Bool → SS → Prop) (R : Bool → Hp → Prop), Sm K G B [] σ H ss → t ss Q →
  (∀ b H' ss', Kp H H' → Sm K G B [] σ H' ss' → Q b ss' → R b H') → te σ H R
def ZB (X : Cx) (G : Addr → Prop) (B : Hp) (e : Expr) (t : ZTB) : Prop := ∃ te, PT X e te ∧ ZrB X.K G B te t
def ZW (X : Cx) (G : Addr → Prop) (B : Hp) (e : Expr) (t : ZTB) : Prop := ∃ te, PW X e te ∧ ZrB X.K G B te t
/-- arguments -/
def AR (K : Frag) (G : Addr → Prop) (σ : St) (H : Hp) : List V → List RV → Prop
  | [], [] => True
  | v :: vs, .d x :: rs => DR K G H v x ∧ AR K G σ H vs rs
  | v :: vs, .loc i :: rs => σ[i]? = some (some v) ∧ AR K G σ H vs rs
  | _, _ => False
def ZrA (K : Frag) (G : Addr → Prop) (B : Hp) (te : TA) (t : ZTA) : Prop := ∀ (σ : St) (H : Hp) (ss : SS) (Q : List RV → SS → Prop) (R : List V → Hp → Prop), Sm K G B [] σ H ss → t ss Q →
  (∀ vs H' rs ss', Kp H H' → Sm K G B [] σ H' ss' → AR K G σ H' vs rs → Q rs ss' → R vs H') → te σ H R
def ZA (X : Cx) (G : Addr → Prop) (B : Hp) (es : List Expr) (t : ZTA) : Prop := ∃ te, PA X es te ∧ ZrA X.K G B te t
/-! marks of the readings: a side condition, a branching -/
structure Sd (p : Prop) : Prop where
  h : p
structure Br (b : Bool) (A C : Prop) : Prop where
  t : b = true → A
  f : b = false → C
theorem Br.T {A C : Prop} (h : A) : Br true A C := ⟨fun _ => h, fun e => Bool.noConfusion e⟩
theorem Br.F {A C : Prop} (h : C) : Br false A C := ⟨fun e => Bool.noConfusion e, fun _ => h⟩
/-! ## freezing -/
/-- an owned thing as a datum, its lists frozen -/
def O.fz : O → Option D
  | .pure d => some d
  | .lst ds => some (.lst 0 ds)
  | .dct ks ds => some (.dct 0 ks ds)
  | .ins _ C ns os => (pures os).map fun ds => .obj C ns ds
where pures : List O → Option (List D)
  | [] => some []
  | .pure d :: os => (pures os).map (d :: ·)
  | _ => none
def zF (t : ZT) : ZTD := fun ss Q => t ss fun r s => match r with
  | .d x => Q x s
  | .new o => match o.fz with
    | some d => Q d s
    | none => False
  | .loc i => match s[i]? with
    | some (some o) => match o.fz with
      | some d => Q d (s.set i (some (.pure d)))
      | none => False
    | _ => False
/-- frozen, if it is to be -/
def tFz (te : TE) : TE := fun σ H Q => te σ H fun v H1 => Q v H1 ∨ ∃ a u, v = .ref a ∧ H1 a = some u ∧ Mut (some u) ∧ ∀ od, Q v (upd H1 a (.frz od u))
theorem pe_fz {X : Cx} {e : Expr} {te : TE} (h : PE X e te) : PE X e (tFz te) := by
  refine ⟨fun pins s σ H Q I hw => ?_⟩
  refine thn (h.run pins s σ H _ I hw) fun u s1 ⟨v, H1, I1, r, q⟩ => ?_
  rcases q with q | ⟨a, w, ev, ha, mu, q⟩
  · exact ⟨v, H1, I1, r, q⟩
  · obtain ⟨od, I2⟩ := I1.lock ha mu
    exact ⟨v, _, I2, r, q od⟩
section
variable {K : Frag} {G : Addr → Prop} {B : Hp} {σ : St} {H H' : Hp} {ss : SS} {v : V}
theorem pures_or : ∀ {os : List O} {vs : List V} {as : List Addr} {ds : List D}, ORs K G H vs os as → O.fz.pures os = some ds → as = [] ∧ DRs K G H vs ds
  | [], _, _, _, h, e => by cases h; simp [O.fz.pures] at e; subst e; exact ⟨rfl, .nil⟩
  | .pure d :: os, _, _, _, h, e => by
    cases h with
    | cons a b =>
      cases a with
      | pure r =>
        simp only [O.fz.pures, Option.map_eq_some_iff] at e
        obtain ⟨ds, e1, rfl⟩ := e
        obtain ⟨e2, r2⟩ := pures_or b e1
        exact ⟨by simp [e2], .cons r r2⟩
  | .lst _ :: os, _, _, _, h, e => by simp [O.fz.pures] at e
  | .dct _ _ :: os, _, _, _, h, e => by simp [O.fz.pures] at e
  | .ins _ _ _ _ :: os, _, _, _, h, e => by simp [O.fz.pures] at e
/-- what is held back becomes a datum: as it stands, or by freezing its address -/
theorem fz_or {o : O} {as : List Addr} {d : D} (S : Sm K G B as σ H ss) (r : OR K G H v o as) (e : o.fz = some d) :
    (Sm K G B [] σ H ss ∧ DR K G H v d ∧ Kp H H) ∨ ∃ a u, v = .ref a ∧ as = [a] ∧ H a = some u ∧ Mut (some u) ∧ ∀ od, Sm K G B [] σ (upd H a (.frz od u)) ss ∧ DR K G (upd H a (.frz od u)) v d ∧ Kp H (upd H a (.frz od u)) := by
  cases o with
  | pure x =>
    cases r with
    | pure r => simp [O.fz] at e; subst e; exact .inl ⟨S.weak, r, Kp.refl _⟩
  | lst ds =>
    cases r with
    | @lst a xs _ h1 h2 =>
      simp [O.fz] at e; subst e
      refine .inr ⟨a, _, rfl, rfl, h1, trivial, fun od => ?_⟩
      obtain ⟨S', k⟩ := S.frz (od := od) h1 trivial
      refine ⟨S', .lst0 upd_same (fun g => ?_) (h2.kp k), k⟩
      obtain ⟨o, q⟩ := S.gb a g
      rw [S.nn a (by simp)] at q; cases q
  | dct ks ds =>
    cases r with
    | @dct a kvs _ _ h1 h3 h2 =>
      simp [O.fz] at e; subst e
      refine .inr ⟨a, _, rfl, rfl, h1, trivial, fun od => ?_⟩
      obtain ⟨S', k⟩ := S.frz (od := od) h1 trivial
      refine ⟨S', .dct0 upd_same (fun g => ?_) h3 (h2.kp k), k⟩
      obtain ⟨o, q⟩ := S.gb a g
      rw [S.nn a (by simp)] at q; cases q
  | ins a0 C ns os =>
    cases r with
    | @ins _ _ dx _ fvs _ _ as hc h1 h2 h3 =>
      simp only [O.fz, Option.map_eq_some_iff] at e
      obtain ⟨ds, e1, rfl⟩ := e
      obtain ⟨e2, r2⟩ := pures_or h3 e1
      subst e2
      refine .inr ⟨a0, _, rfl, rfl, h1, trivial, fun od => ?_⟩
      obtain ⟨S', k⟩ := S.frz (od := od) h1 trivial
      exact ⟨S', .obj hc upd_same h2 (r2.kp k), k⟩
theorem z_fz {X : Cx} {e : Expr} {t : ZT} (h : ZE X G B e t) : ZD X G B e (zF t) := by
  obtain ⟨te, hp, hz⟩ := h
  refine ⟨_, pe_fz hp, fun σ H ss Q R S hw fin => ?_⟩
  refine hz σ H ss _ _ S hw fun v H' r ss' k rr q => ?_
  cases r with
  | d x => exact .inl (fin v H' x ss' k rr.1 rr.2 q)
  | new o =>
    obtain ⟨as, S', ro, nd⟩ := rr
    cases ef : o.fz with
    | none => simp only [ef] at q
    | some d =>
      simp only [ef] at q
      rcases fz_or S' ro ef with ⟨S2, r2, _⟩ | ⟨a, u, e1, _, e2, mu, q2⟩
      · exact .inl (fin v H' d ss' k S2 r2 q)
      · refine .inr ⟨a, u, e1, e2, mu, fun od => ?_⟩
        obtain ⟨S2, r2, k2⟩ := q2 od
        exact fin v _ d ss' (k.trans k2) S2 r2 q
  | loc i =>
    obtain ⟨S', ev⟩ := rr
    cases es : ss'[i]? with
    | none => simp only [es] at q
    | some oo =>
      cases oo with
      | none => simp only [es] at q
      | some o =>
        cases ef : o.fz with
        | none => simp only [es, ef] at q
        | some d =>
          simp only [es, ef] at q
          obtain ⟨v', as, ev', ro, nd, S2⟩ := S'.take es
          rw [ev] at ev'
          cases ev'
          rcases fz_or S2 ro ef with ⟨S3, r3, _⟩ | ⟨a, u, e1, _, e2, mu, q2⟩
          · refine .inl (fin v H' d _ k ?_ r3 q)
            have := S3.put ev (.pure r3) List.nodup_nil
            rw [List.set_set] at this; exact this
          · refine .inr ⟨a, u, e1, e2, mu, fun od => ?_⟩
            obtain ⟨S3, r3, k2⟩ := q2 od
            have S4 := S3.put ev (.pure r3) List.nodup_nil
            rw [List.set_set] at S4
            exact fin v _ d _ (k.trans k2) S4 r3 q
end

abbrev WZ := Nat → List Nat → List D → SS → Prop
abbrev EZ := Nat → List Nat → List D → Prop
/-- an exception of the class with number c, its attributes -/
def XR (K : Frag) (G : Addr → Prop) (H : Hp) (cls : Value) (d : Option Addr) (c : Nat) (ns : List Nat) (ds : List D) : Prop :=
  (∃ C, ClsAt K c C ∧ cls = .ref C) ∧ ∃ fvs : List (Str × V), (d = none ∧ fvs = [] ∨ ∃ p, d = some p ∧ H p = some (.xd fvs)) ∧ fvs.map (·.1) = ns.map attN ∧ DRs K G H (fvs.map (·.2)) ds
/-- where one stands: k calls fit in, no name twice, what an exception meets -/
structure Ctx (X : Cx) (G : Addr → Prop) (B : Hp) (Wz : WZ) (k : Nat) : Prop where
  room : Room k X.A
  nd : X.N.Nodup
  calm : X.calm = true
  pass : PassesOwn (model X.prog X.w) X.A X.env X.xe
  wish : ∃ W : WX, Takes X W ∧ ∀ σ H ss cls d c ns ds, Sm X.K G B [] σ H ss → XR X.K G H cls d c ns ds → Wz c ns ds ss → W cls d σ H
/-! ## a datum that is looked at: it may be owned -/
inductive VR (K : Frag) (G : Addr → Prop) (H : Hp) : V → D → Prop
  | d {v : V} {x : D} : DR K G H v x → VR K G H v x
  | l {a : Addr} {xs : List V} {ds : List D} : H a = some (.lst xs) → DRs K G H xs ds → VR K G H (.ref a) (.lst 1 ds)
  | k {a : Addr} {kvs : List (Key × V)} {ks : List Nat} {ds : List D} : H a = some (.dK kvs) → kvs.map (·.1) = ks.map keyN → DRs K G H (kvs.map (·.2)) ds → VR K G H (.ref a) (.dct 1 ks ds)
def cv (ss : SS) : RV → Option D
  | .d x => some x
  | .loc i => match ss[i]? with
    | some (some (.lst ds)) => some (.lst 1 ds)
    | some (some (.dct ks ds)) => some (.dct 1 ks ds)
    | some (some (.pure d)) => some d
    | _ => none
  | .new _ => none
section
variable {K : Frag} {G : Addr → Prop} {B : Hp} {σ : St} {H H' : Hp} {ss : SS} {v : V} {m : Nat} {ds : List D}
theorem VR.sq (h : VR K G H v (.lst m ds)) : ∃ a xs, v = .ref a ∧ SqL K H a xs ∧ DRs K G H xs ds := by
  cases h with
  | d h =>
    cases h with
    | lst0 a g b => exact ⟨_, _, rfl, .inl (.inr ⟨_, a⟩), b⟩
    | lst1 a g b => exact ⟨_, _, rfl, .inl (.inr ⟨_, a⟩), b⟩
    | lst2 a b => exact ⟨_, _, rfl, .inr a, b⟩
  | l a b => exact ⟨_, _, rfl, SqL.of a, b⟩
/-- a list that is no part of the top -/
theorem VR.rd (h : VR K G H v (.lst m ds)) (hm : m ≠ 2) : ∃ a xs, v = .ref a ∧ Rd H a (.lst xs) ∧ DRs K G H xs ds := by
  cases h with
  | d h =>
    cases h with
    | lst0 a g b => exact ⟨_, _, rfl, .inr ⟨_, a⟩, b⟩
    | lst1 a g b => exact ⟨_, _, rfl, .inr ⟨_, a⟩, b⟩
    | lst2 a b => exact absurd rfl hm
  | l a b => exact ⟨_, _, rfl, .inl a, b⟩
theorem VR.tq (h : VR K G H v (.tup ds)) : ∃ a xs, v = .ref a ∧ SqT K H a xs ∧ DRs K G H xs ds := by
  cases h with
  | d h => cases h with | tup a b => exact ⟨_, _, rfl, a, b⟩
theorem VR.i {i : Int} (h : VR K G H v (.int i)) : v = .int i := by cases h with | d h => cases h; rfl
theorem VR.b {b : Bool} (h : VR K G H v (.bl b)) : v = .bl b := by cases h with | d h => cases h; rfl
theorem VR.s {s : Str} (h : VR K G H v (.str s)) : v = .str s := by cases h with | d h => cases h; rfl
theorem VR.n (h : VR K G H v .non) : v = .non := by cases h with | d h => cases h; rfl
theorem VR.y {n : String} (h : VR K G H v (.ty n)) : v = .ty n := by cases h with | d h => cases h; rfl
theorem VR.a {a : Addr} (h : VR K G H v (.adr a)) : v = .ref a := by cases h with | d h => cases h; rfl
/-- what an operand is at the end: r was found at (σ, H), the state is now (ss', H') -/
theorem cv_vr {r : RV} {x : D} {ss' : SS} (S : Sm K G B [] σ H' ss') (k : Kp H H') (rr : RR K G B σ H ss v r) (e : cv ss' r = some x) : VR K G H' v x := by
  cases r with
  | d y => cases e; exact .d (rr.2.kp k)
  | new o => cases e
  | loc i =>
    obtain ⟨_, hv⟩ := rr
    unfold cv at e
    cases h : ss'[i]? with
    | none => simp only [h] at e; cases e
    | some oo =>
      cases oo with
      | none => simp only [h] at e; cases e
      | some o =>
        cases o with
        | pure d =>
          simp only [h] at e; cases e
          obtain ⟨w, hw, r⟩ := S.pure h
          rw [hv] at hw; cases hw
          exact .d r
        | lst ds =>
          simp only [h] at e; cases e
          obtain ⟨a, xs, hw, ha, r⟩ := S.list h
          rw [hv] at hw; cases hw
          exact .l ha r
        | dct ks ds =>
          simp only [h] at e; cases e
          obtain ⟨w, as, hw, r⟩ := S.get h
          rw [hv] at hw; cases hw
          cases r with | dct ha hk r => exact .k ha hk r
        | ins a0 C ns os => simp only [h] at e; cases e
end
/-- only what is new is frozen -/
def zN (t : ZT) : ZT := fun ss Q => t ss fun r s => match r with
  | .new o => match o.fz with
    | some d => Q (.d d) s
    | none => False
  | .d x => Q (.d x) s
  | .loc i => Q (.loc i) s
section
variable {X : Cx} {G : Addr → Prop} {B : Hp} {Wz : WZ} {k : Nat} {e a b c : Expr} {t ta tb tc : ZT} {pos : Pos}
theorem z_n (h : ZE X G B e t) : ZE X G B e (zN t) := by
  obtain ⟨te, hp, hz⟩ := h
  refine ⟨_, pe_fz hp, fun σ H ss Q R S hw fin => ?_⟩
  refine hz σ H ss _ _ S hw fun v H' r ss' k rr q => ?_
  cases r with
  | d x => exact .inl (fin v H' _ ss' k rr q)
  | loc i => exact .inl (fin v H' _ ss' k rr q)
  | new o =>
    obtain ⟨as, S', ro, nd⟩ := rr
    cases ef : o.fz with
    | none => simp only [ef] at q
    | some d =>
      simp only [ef] at q
      rcases fz_or S' ro ef with ⟨S2, r2, _⟩ | ⟨a, u, e1, _, e2, mu, q2⟩
      · exact .inl (fin v H' (.d d) ss' k ⟨S2, r2⟩ q)
      · refine .inr ⟨a, u, e1, e2, mu, fun od => ?_⟩
        obtain ⟨S2, r2, k2⟩ := q2 od
        exact fin v _ (.d d) ss' (k.trans k2) ⟨S2, r2⟩ q
theorem RR.d' {K : Frag} {σ : St} {H : Hp} {ss : SS} {v : V} {x : D} (S : Sm K G B [] σ H ss) (r : DR K G H v x) : RR K G B σ H ss v (.d x) := ⟨S, r⟩
theorem RR.l' {K : Frag} {σ : St} {H : Hp} {ss : SS} {v : V} {i : Nat} (S : Sm K G B [] σ H ss) (r : σ[i]? = some (some v)) : RR K G B σ H ss v (.loc i) := ⟨S, r⟩
/-! ## names, constants -/
def zVar (i : Nat) : ZT := fun ss Q => match ss[i]? with
  | some (some (.pure d)) => Q (.d d) ss
  | some (some _) => Q (.loc i) ss
  | _ => False
theorem z_var (i : Nat) {x : Str} {pos : Pos} (hN : X.N[i]? = some x := by rfl) (hv : Vis X.env.scope x := by first | exact Or.inl rfl | exact Or.inr (Or.inl rfl) | exact Or.inr (Or.inr rfl)) (hd : (x == ("__debug__" : Str)) = false := by decide)
    (hcd : (x == ("__classdict__" : Str)) = false := by decide) : ZE X G B (.Name x pos) (zVar i) := by
  refine ⟨_, pe_var hN hv hd hcd, fun σ H ss Q R S hw fin => ?_⟩
  unfold zVar at hw
  cases h : ss[i]? with
  | none => simp only [h] at hw
  | some oo =>
    cases oo with
    | none => simp only [h] at hw
    | some o =>
      cases o with
      | pure d =>
        simp only [h] at hw
        obtain ⟨v, hv, r⟩ := S.pure h
        exact ⟨v, hv, fin v H _ ss (Kp.refl H) (.d' S r) hw⟩
      | lst ds =>
        simp only [h] at hw
        obtain ⟨v, as, hv, r⟩ := S.get h
        exact ⟨v, hv, fin v H _ ss (Kp.refl H) (.l' S hv) hw⟩
      | ins a0 C ns os =>
        simp only [h] at hw
        obtain ⟨v, as, hv, r⟩ := S.get h
        exact ⟨v, hv, fin v H _ ss (Kp.refl H) (.l' S hv) hw⟩
      | dct ks ds =>
        simp only [h] at hw
        obtain ⟨v, as, hv, r⟩ := S.get h
        exact ⟨v, hv, fin v H _ ss (Kp.refl H) (.l' S hv) hw⟩
def zC (d : D) : ZT := fun ss Q => Q (.d d) ss
theorem z_int {i j pos} : ZE X G B (.Constant (.int i) j pos) (zC (.int i)) := ⟨_, pe_int, fun _ H ss _ _ S hw fin => fin _ H _ ss (Kp.refl H) (.d' S (.int i)) hw⟩
theorem z_bl {i j pos} : ZE X G B (.Constant (.bool i) j pos) (zC (.bl i)) := ⟨_, pe_bl, fun _ H ss _ _ S hw fin => fin _ H _ ss (Kp.refl H) (.d' S (.bl i)) hw⟩
theorem z_non {j pos} : ZE X G B (.Constant .none j pos) (zC .non) := ⟨_, pe_non, fun _ H ss _ _ S hw fin => fin _ H _ ss (Kp.refl H) (.d' S .non) hw⟩
theorem z_str {i j pos} : ZE X G B (.Constant (.str i) j pos) (zC (.str i)) := ⟨_, pe_str, fun _ H ss _ _ S hw fin => fin _ H _ ss (Kp.refl H) (.d' S (.str i)) hw⟩
/-- a name of the top -/
theorem z_glob {x : Str} {v : V} {u : Value} {d : D} {pos : Pos} (hg : Gl X x) (hm : X.mg x = some u) (r : RelV v u) (hd : ∀ G H, DR X.K G H v d) (hdb : (x == ("__debug__" : Str)) = false := by decide) : ZE X G B (.Name x pos) (zC d) :=
  ⟨_, pe_glob hg hm r hdb, fun _ H ss _ _ S hw fin => fin _ H _ ss (Kp.refl H) (.d' S (hd _ _)) hw⟩
theorem z_bltn {x : Str} {n : String} {pos : Pos} (hg : Gl X x) (hm : X.mg x = none) (hv : bootBuiltins x = some (.type n)) (hn : x ≠ "__name__" := by decide) (hd : (x == ("__debug__" : Str)) = false := by decide) : ZE X G B (.Name x pos) (zC (.ty n)) :=
  ⟨_, pe_bltn (v := .ty n) hg hm hv rfl hn hd, fun _ H ss _ _ S hw fin => fin _ H _ ss (Kp.refl H) (.d' S (.ty n)) hw⟩
/-! ## operations on two values -/
abbrev Z2 := D → D → (RV → Prop) → Prop
/-- the rule of an operation -/
def OpZ (X : Cx) (f : Value → Value → PySem.Sem Value) (z : Z2) : Prop := ∃ r : R2, OpR X f r ∧ ∀ (G : Addr → Prop) (H : Hp) (x y : V) (dx dy : D) (Q : RV → Prop) (R : VK), VR X.K G H x dx → VR X.K G H y dy → z dx dy Q →
  (∀ v H' rv, RS X.K G H H' v rv → Q rv → R v H') → r x y H R
def zBin (z : Z2) (ta tb : ZT) : ZT := fun ss Q => zN ta ss fun ra s1 => zN tb s1 fun rb s2 => match cv s2 ra, cv s2 rb with
  | some x, some y => z x y fun r => Q r s2
  | _, _ => False
theorem bin_zr {K : Frag} {tea teb : TE} {r : R2} {z : Z2} (ha : Zr K G B tea (zN ta)) (hb : Zr K G B teb (zN tb))
    (hr : ∀ (G : Addr → Prop) (H : Hp) (x y : V) (dx dy : D) (Q : RV → Prop) (R : VK), VR K G H x dx → VR K G H y dy → z dx dy Q → (∀ v H' rv, RS K G H H' v rv → Q rv → R v H') → r x y H R) : Zr K G B (tOp r tea teb) (zBin z ta tb) := by
  intro σ H ss Q R S hw fin
  refine ha σ H ss _ _ S hw fun v H1 ra s1 k1 rr1 q1 => ?_
  refine hb σ H1 s1 _ _ rr1.sem q1 fun w H2 rb s2 k2 rr2 q2 => ?_
  cases ea : cv s2 ra with
  | none => simp only [ea] at q2
  | some x =>
    cases eb : cv s2 rb with
    | none => simp only [ea, eb] at q2
    | some y =>
      simp only [ea, eb] at q2
      refine hr G H2 v w x y _ _ (cv_vr rr2.sem k2 rr1 ea) (cv_vr rr2.sem (Kp.refl _) rr2 eb) q2 fun u H3 rv rs q3 => ?_
      exact fin u H3 rv s2 ((k1.trans k2).trans (Kp.of rs.same)) (rs.rr rr2.sem) q3
theorem z_bin {op : Operator} {z : Z2} (ho : OpZ X (binaryOp op) z) (ha : ZE X G B a ta) (hb : ZE X G B b tb) : ZE X G B (.BinOp a op b pos) (zBin z ta tb) := by
  obtain ⟨r, h1, h2⟩ := ho
  obtain ⟨tea, pa, za⟩ := z_n ha
  obtain ⟨teb, pb, zb⟩ := z_n hb
  exact ⟨_, pe_op h1 pa pb, bin_zr za zb h2⟩
theorem z_cmp {op : CmpOp} {z : Z2} (ho : OpZ X (compareOp op) z) (hm : behindInMarks op b = false) (ha : ZE X G B a ta) (hb : ZE X G B b tb) : ZE X G B (.Compare a [op] [b] pos) (zBin z ta tb) := by
  obtain ⟨r, h1, h2⟩ := ho
  obtain ⟨tea, pa, za⟩ := z_n ha
  obtain ⟨teb, pb, zb⟩ := z_n hb
  exact ⟨_, pe_cmpR h1 pa pb hm, bin_zr za zb h2⟩
/-- a value as a test -/
def zT (t : ZT) : ZTB := fun ss Q => t ss fun r s => match r with
  | .d (.bl b) => Q b s
  | _ => False
theorem zt_of {K : Frag} {te : TE} (h : Zr K G B te t) : ZrB K G B (tTest te) (zT t) := by
  intro σ H ss Q R S hw fin
  refine h σ H ss _ _ S hw fun v H' r ss' k rr q => ?_
  cases r with
  | d x =>
    cases x with
    | bl b =>
      obtain ⟨S', r⟩ := rr
      cases r
      exact ⟨b, rfl, fin b H' ss' k S' q⟩
    | _ => exact q.elim
  | _ => exact q.elim
theorem t_cmp {op : CmpOp} {z : Z2} (ho : OpZ X (compareOp op) z) (hm : behindInMarks op b = false) (ha : ZE X G B a ta) (hb : ZE X G B b tb) : ZB X G B (.Compare a [op] [b] pos) (zT (zBin z ta tb)) := by
  obtain ⟨r, h1, h2⟩ := ho
  obtain ⟨tea, pa, za⟩ := z_n ha
  obtain ⟨teb, pb, zb⟩ := z_n hb
  exact ⟨_, pt_cmpR h1 pa pb hm, zt_of (bin_zr za zb h2)⟩
/-- any other expression that gives a bool (a name, a call, a subscript ..) -/
theorem t_val (h : ZE X G B e t) (he : ∀ whole, isTrue e X.env whole = (do let v ← whole; standAt e.pos; holding [v] (truthy v)) := by intro _; rfl) : ZB X G B e (zT t) := by
  obtain ⟨te, p, z⟩ := h
  exact ⟨_, pt_val p he, zt_of z⟩
def zNot (t : ZTB) : ZTB := fun ss Q => t ss fun b s => Q (!b) s
theorem t_not {t : ZTB} (h : ZB X G B a t) : ZB X G B (.UnaryOp .Not a pos) (zNot t) := by
  obtain ⟨te, p, z⟩ := h
  exact ⟨_, pt_not p, fun σ H ss Q R S hw fin => z σ H ss _ _ S hw fun b H' ss' k S' q => fin _ H' ss' k S' q⟩
def zAnd (t u : ZTB) : ZTB := fun ss Q => t ss fun b s => Br b (u s Q) (Q false s)
def zOr (t u : ZTB) : ZTB := fun ss Q => t ss fun b s => Br b (Q true s) (u s Q)
variable {rest : List Expr} {u v : ZTB}
theorem w_and1 (h : ZB X G B a u) : ZW X G B (.BoolOp .And [a] pos) u := by obtain ⟨te, p, z⟩ := h; exact ⟨_, pw_and1 p, z⟩
theorem w_or1 (h : ZB X G B a u) : ZW X G B (.BoolOp .Or [a] pos) u := by obtain ⟨te, p, z⟩ := h; exact ⟨_, pw_or1 p, z⟩
theorem w_and (h : ZB X G B a u) (h2 : ZW X G B (.BoolOp .And (b :: rest) pos) v) : ZW X G B (.BoolOp .And (a :: b :: rest) pos) (zAnd u v) := by
  obtain ⟨te, p, z⟩ := h
  obtain ⟨te2, p2, z2⟩ := h2
  refine ⟨_, pw_and p p2, fun σ H ss Q R S hw fin => z σ H ss _ _ S hw fun b H' ss' k S' q => ?_⟩
  cases b with
  | true => rw [if_pos rfl]; exact z2 σ H' ss' _ _ S' (q.t rfl) fun b2 H2 s2 k2 S2 q2 => fin b2 H2 s2 (k.trans k2) S2 q2
  | false => rw [if_neg Bool.false_ne_true]; exact fin false H' ss' k S' (q.f rfl)
theorem w_or (h : ZB X G B a u) (h2 : ZW X G B (.BoolOp .Or (b :: rest) pos) v) : ZW X G B (.BoolOp .Or (a :: b :: rest) pos) (zOr u v) := by
  obtain ⟨te, p, z⟩ := h
  obtain ⟨te2, p2, z2⟩ := h2
  refine ⟨_, pw_or p p2, fun σ H ss Q R S hw fin => z σ H ss _ _ S hw fun b H' ss' k S' q => ?_⟩
  cases b with
  | true => rw [if_pos rfl]; exact fin true H' ss' k S' (q.t rfl)
  | false => rw [if_neg Bool.false_ne_true]; exact z2 σ H' ss' _ _ S' (q.f rfl) fun b2 H2 s2 k2 S2 q2 => fin b2 H2 s2 (k.trans k2) S2 q2
theorem t_w (h : ZW X G B e u) : ZB X G B e u := by obtain ⟨te, p, z⟩ := h; exact ⟨_, p.pt, z⟩
/-! and, or, not as values: of bools -/
def zAndV (ta tb : ZT) : ZT := fun ss Q => ta ss fun r s => match r with
  | .d (.bl b) => Br b (tb s Q) (Q (.d (.bl false)) s)
  | _ => False
def zOrV (ta tb : ZT) : ZT := fun ss Q => ta ss fun r s => match r with
  | .d (.bl b) => Br b (Q (.d (.bl true)) s) (tb s Q)
  | _ => False
def zNotV (ta : ZT) : ZT := fun ss Q => ta ss fun r s => match r with
  | .d (.bl b) => Q (.d (.bl (!b))) s
  | _ => False
theorem z_one {op} (h : ZE X G B a t) : ZE X G B (.BoolOp op [a] pos) t := by obtain ⟨te, p, z⟩ := h; exact ⟨_, pe_one p, z⟩
theorem z_and (h : ZE X G B a ta) (h2 : ZE X G B (.BoolOp .And (b :: rest) pos) tb) : ZE X G B (.BoolOp .And (a :: b :: rest) pos) (zAndV ta tb) := by
  obtain ⟨te, p, z⟩ := h
  obtain ⟨te2, p2, z2⟩ := h2
  refine ⟨_, pe_and p p2, fun σ H ss Q R S hw fin => z σ H ss _ _ S hw fun w H' r ss' k rr q => ?_⟩
  cases r with
  | d x =>
    cases x with
    | bl b =>
      obtain ⟨S', r⟩ := rr
      cases r
      refine ⟨b, rfl, ?_⟩
      cases b with
      | true => rw [if_pos rfl]; exact z2 σ H' ss' _ _ S' (q.t rfl) fun b2 H2 r2 s2 k2 S2 q2 => fin b2 H2 r2 s2 (k.trans k2) S2 q2
      | false => rw [if_neg Bool.false_ne_true]; exact fin _ H' _ ss' k (.d' S' (.bl false)) (q.f rfl)
    | _ => exact q.elim
  | _ => exact q.elim
theorem z_or (h : ZE X G B a ta) (h2 : ZE X G B (.BoolOp .Or (b :: rest) pos) tb) : ZE X G B (.BoolOp .Or (a :: b :: rest) pos) (zOrV ta tb) := by
  obtain ⟨te, p, z⟩ := h
  obtain ⟨te2, p2, z2⟩ := h2
  refine ⟨_, pe_or p p2, fun σ H ss Q R S hw fin => z σ H ss _ _ S hw fun w H' r ss' k rr q => ?_⟩
  cases r with
  | d x =>
    cases x with
    | bl b =>
      obtain ⟨S', r⟩ := rr
      cases r
      refine ⟨b, rfl, ?_⟩
      cases b with
      | true => rw [if_pos rfl]; exact fin _ H' _ ss' k (.d' S' (.bl true)) (q.t rfl)
      | false => rw [if_neg Bool.false_ne_true]; exact z2 σ H' ss' _ _ S' (q.f rfl) fun b2 H2 r2 s2 k2 S2 q2 => fin b2 H2 r2 s2 (k.trans k2) S2 q2
    | _ => exact q.elim
  | _ => exact q.elim
theorem z_not (h : ZE X G B a ta) : ZE X G B (.UnaryOp .Not a pos) (zNotV ta) := by
  obtain ⟨te, p, z⟩ := h
  refine ⟨_, pe_not p, fun σ H ss Q R S hw fin => z σ H ss _ _ S hw fun w H' r ss' k rr q => ?_⟩
  cases r with
  | d x =>
    cases x with
    | bl b =>
      obtain ⟨S', r⟩ := rr
      cases r
      exact ⟨b, rfl, fin _ H' _ ss' k (.d' S' (.bl _)) q⟩
    | _ => exact q.elim
  | _ => exact q.elim
def zIf (t : ZTB) (ta tb : ZT) : ZT := fun ss Q => t ss fun b s => Br b (ta s Q) (tb s Q)
theorem z_ifx (h : ZB X G B c u) (ha : ZE X G B a ta) (hb : ZE X G B b tb) : ZE X G B (.IfExp c a b pos) (zIf u ta tb) := by
  obtain ⟨te, p, z⟩ := h
  obtain ⟨te2, p2, z2⟩ := ha
  obtain ⟨te3, p3, z3⟩ := hb
  refine ⟨_, pe_ifExp p p2 p3, fun σ H ss Q R S hw fin => z σ H ss _ _ S hw fun b H' ss' k S' q => ?_⟩
  cases b with
  | true => rw [if_pos rfl]; exact z2 σ H' ss' _ _ S' (q.t rfl) fun b2 H2 r2 s2 k2 S2 q2 => fin b2 H2 r2 s2 (k.trans k2) S2 q2
  | false => rw [if_neg Bool.false_ne_true]; exact z3 σ H' ss' _ _ S' (q.f rfl) fun b2 H2 r2 s2 k2 S2 q2 => fin b2 H2 r2 s2 (k.trans k2) S2 q2
end

/-! ## == of data -/
mutual
def D.eq : D → D → Bool
  | .non, .non => true
  | .bl a, .bl b => a == b
  | .bl a, .int j => (if a then 1 else 0) == j
  | .int i, .bl b => i == (if b then 1 else 0)
  | .int i, .int j => decide (i = j)
  | .str a, .str b => decide (a = b)
  | .tup a, .tup b => D.eqs a b
  | .lst _ a, .lst _ b => D.eqs a b
  | _, _ => false
def D.eqs : List D → List D → Bool
  | [], [] => true
  | a :: as, b :: bs => D.eq a b && D.eqs as bs
  | _, _ => false
end
mutual
/-- plain data, at most n deep -/
def D.pl : Nat → D → Bool
  | _, .non => true
  | _, .bl _ => true
  | _, .int _ => true
  | _, .str s => s.cps.all (· < 0x110000)
  | n + 1, .tup ds => D.pls n ds
  | n + 1, .lst _ ds => D.pls n ds
  | _, _ => false
def D.pls : Nat → List D → Bool
  | _, [] => true
  | n, d :: ds => D.pl n d && D.pls n ds
end
mutual
def D.toP : D → PyData
  | .non => .none
  | .bl b => .bool b
  | .int i => .int i
  | .str s => .str s
  | .tup ds => .tuple (D.toPs ds)
  | .lst _ ds => .list (D.toPs ds)
  | _ => .none
def D.toPs : List D → List PyData
  | [] => []
  | d :: ds => d.toP :: D.toPs ds
end
section
variable {K : Frag} {G : Addr → Prop} {H : Hp}
mutual
theorem DR.dp : ∀ {n : Nat} {d : D} {v : V}, DR K G H v d → d.pl n = true → Dp K H v d.toP
  | _, .non, _, h, _ => by cases h; exact .non
  | _, .bl b, _, h, _ => by cases h; exact .bl b
  | _, .int i, _, h, _ => by cases h; exact .int i
  | _, .str s, _, h, _ => by cases h; exact .str s
  | 0, .tup ds, _, _, p => by simp [D.pl] at p
  | n + 1, .tup ds, _, h, p => by cases h with | tup a b => exact .tup a (DRs.dp b (by simpa [D.pl] using p))
  | 0, .lst m ds, _, _, p => by simp [D.pl] at p
  | n + 1, .lst m ds, _, h, p => by
    have p2 : D.pls n ds = true := by simpa [D.pl] using p
    cases h with
    | lst0 a g b => exact .lst (.inl (.inr ⟨_, a⟩)) (DRs.dp b p2)
    | lst1 a g b => exact .lst (.inl (.inr ⟨_, a⟩)) (DRs.dp b p2)
    | lst2 a b => exact .lst (.inr a) (DRs.dp b p2)
  | _, .obj _ _ _, _, _, p => by simp [D.pl] at p
  | _, .ty _, _, _, p => by simp [D.pl] at p
  | _, .adr _, _, _, p => by simp [D.pl] at p
  | _, .dct _ _ _, _, _, p => by simp [D.pl] at p
  | _, .exc _ _ _, _, _, p => by simp [D.pl] at p
theorem DRs.dp : ∀ {n : Nat} {ds : List D} {vs : List V}, DRs K G H vs ds → D.pls n ds = true → DpAll K H vs (D.toPs ds)
  | _, [], _, h, _ => by cases h; exact .nil
  | n, d :: ds, _, h, p => by
    simp [D.pls] at p
    cases h with | cons a b => exact .cons (DR.dp a p.1) (DRs.dp b p.2)
end
theorem VR.dp {n : Nat} {d : D} {v : V} (h : VR K G H v d) (p : d.pl n = true) : Dp K H v d.toP := by
  cases h with
  | d h => exact h.dp p
  | l a b =>
    cases n with
    | zero => simp [D.pl] at p
    | succ n => exact .lst (SqL.of a) (b.dp (by simpa [D.pl] using p))
  | k a e b => cases n <;> simp [D.pl] at p
end
mutual
theorem pl_shape : ∀ {n : Nat} {d : D}, d.pl n = true → d.toP.canLay0 = true ∧ d.toP.depth ≤ n
  | _, .non, _ => by simp [D.toP, PyData.canLay0, PyData.depth]
  | _, .bl b, _ => by simp [D.toP, PyData.canLay0, PyData.depth]
  | _, .int i, _ => by simp [D.toP, PyData.canLay0, PyData.depth]
  | _, .str s, p => by simp [D.toP, PyData.canLay0, PyData.depth]; simpa [D.pl, PyData.strOk] using p
  | 0, .tup ds, p => by simp [D.pl] at p
  | n + 1, .tup ds, p => by
    obtain ⟨h1, h2⟩ := pls_shape (n := n) (ds := ds) (by simpa [D.pl] using p)
    simp only [D.toP, PyData.canLay0, PyData.depth]
    exact ⟨h1, by omega⟩
  | 0, .lst m ds, p => by simp [D.pl] at p
  | n + 1, .lst m ds, p => by
    obtain ⟨h1, h2⟩ := pls_shape (n := n) (ds := ds) (by simpa [D.pl] using p)
    simp only [D.toP, PyData.canLay0, PyData.depth]
    exact ⟨h1, by omega⟩
  | _, .obj _ _ _, p => by simp [D.pl] at p
  | _, .ty _, p => by simp [D.pl] at p
  | _, .adr _, p => by simp [D.pl] at p
theorem pls_shape : ∀ {n : Nat} {ds : List D}, D.pls n ds = true → PyData.canLayAll0 (D.toPs ds) = true ∧ PyData.depthAll (D.toPs ds) ≤ n
  | _, [], _ => by simp [D.toPs, PyData.canLayAll0, PyData.depthAll]
  | n, d :: ds, p => by
    simp [D.pls] at p
    obtain ⟨h1, h2⟩ := pl_shape p.1
    obtain ⟨h3, h4⟩ := pls_shape p.2
    simp only [D.toPs, PyData.canLayAll0, PyData.depthAll, h1, h3, Bool.and_self]
    exact ⟨trivial, by omega⟩
end
theorem pl_shaped {d : D} (p : d.pl 60 = true) : SeqAt.shaped d.toP = true := by
  obtain ⟨h1, h2⟩ := pl_shape p
  unfold SeqAt.shaped
  rw [h1, Bool.true_and]
  exact decide_eq_true (by omega)
mutual
theorem eq_eqv : ∀ {n m : Nat} {x y : D}, x.pl n = true → y.pl m = true → PyData.eqv x.toP y.toP = D.eq x y
  | n, m, x, y, p, q => by
    cases x with
    | tup xs =>
      cases n with
      | zero => simp [D.pl] at p
      | succ n =>
        cases y with
        | tup ys =>
          cases m with
          | zero => simp [D.pl] at q
          | succ m =>
            simp only [D.toP, PyData.eqv, D.eq]
            exact eqs_eqv (n := n) (m := m) (by simpa [D.pl] using p) (by simpa [D.pl] using q)
        | obj _ _ _ => simp [D.pl] at q
        | ty _ => simp [D.pl] at q
        | adr _ => simp [D.pl] at q
        | dct _ _ _ => simp [D.pl] at q
        | exc _ _ _ => simp [D.pl] at q
        | _ => simp [D.toP, PyData.eqv, D.eq]
    | lst _ xs =>
      cases n with
      | zero => simp [D.pl] at p
      | succ n =>
        cases y with
        | lst _ ys =>
          cases m with
          | zero => simp [D.pl] at q
          | succ m =>
            simp only [D.toP, PyData.eqv, D.eq]
            exact eqs_eqv (n := n) (m := m) (by simpa [D.pl] using p) (by simpa [D.pl] using q)
        | obj _ _ _ => simp [D.pl] at q
        | ty _ => simp [D.pl] at q
        | adr _ => simp [D.pl] at q
        | dct _ _ _ => simp [D.pl] at q
        | exc _ _ _ => simp [D.pl] at q
        | _ => simp [D.toP, PyData.eqv, D.eq]
    | obj _ _ _ => simp [D.pl] at p
    | ty _ => simp [D.pl] at p
    | adr _ => simp [D.pl] at p
    | dct _ _ _ => simp [D.pl] at p
    | exc _ _ _ => simp [D.pl] at p
    | int i =>
      cases y with
      | int j => simp only [D.toP, PyData.eqv, D.eq]; exact Bool.beq_eq_decide_eq i j
      | obj _ _ _ => simp [D.pl] at q
      | ty _ => simp [D.pl] at q
      | adr _ => simp [D.pl] at q
      | dct _ _ _ => simp [D.pl] at q
      | exc _ _ _ => simp [D.pl] at q
      | _ => simp [D.toP, PyData.eqv, D.eq]
    | str i =>
      cases y with
      | str j => simp only [D.toP, PyData.eqv, D.eq]; exact Bool.beq_eq_decide_eq i j
      | obj _ _ _ => simp [D.pl] at q
      | ty _ => simp [D.pl] at q
      | adr _ => simp [D.pl] at q
      | dct _ _ _ => simp [D.pl] at q
      | exc _ _ _ => simp [D.pl] at q
      | _ => simp [D.toP, PyData.eqv, D.eq]
    | _ =>
      cases y with
      | obj _ _ _ => simp [D.pl] at q
      | ty _ => simp [D.pl] at q
      | adr _ => simp [D.pl] at q
      | dct _ _ _ => simp [D.pl] at q
      | exc _ _ _ => simp [D.pl] at q
      | _ => simp [D.toP, PyData.eqv, D.eq]
theorem eqs_eqv : ∀ {n m : Nat} {xs ys : List D}, D.pls n xs = true → D.pls m ys = true → PyData.eqvAll (D.toPs xs) (D.toPs ys) = D.eqs xs ys
  | _, _, [], [], _, _ => by simp [D.toPs, PyData.eqvAll, D.eqs]
  | _, _, [], _ :: _, _, _ => by simp [D.toPs, PyData.eqvAll, D.eqs]
  | _, _, _ :: _, [], _, _ => by simp [D.toPs, PyData.eqvAll, D.eqs]
  | n, m, x :: xs, y :: ys, p, q => by
    simp [D.pls] at p q
    simp only [D.toPs, PyData.eqvAll, D.eqs]
    rw [eq_eqv p.1 q.1, eqs_eqv p.2 q.2]
end
/-! ## the operations -/
section
variable {X : Cx}
/-- an operation on ints alone -/
def zI (C : Int → Int → Prop) (g : Int → Int → Int) : Z2 := fun x y Q => match x, y with
  | .int i, .int j => Sd (C i j) ∧ Q (.d (.int (g i j)))
  | _, _ => False
def zI0 (g : Int → Int → Int) : Z2 := fun x y Q => match x, y with
  | .int i, .int j => Q (.d (.int (g i j)))
  | _, _ => False
def zB0 (g : Int → Int → Bool) : Z2 := fun x y Q => match x, y with
  | .int i, .int j => Q (.d (.bl (g i j)))
  | _, _ => False
theorem rs_d {G : Addr → Prop} {H : Hp} {v : V} {d : D} (r : DR X.K G H v d) : RS X.K G H H v (.d d) := ⟨Same.refl H, r⟩
theorem opz_i {f : Value → Value → PySem.Sem Value} {C : Int → Int → Prop} {g : Int → Int → Int} (h : OpR X f (rI C fun i j => .int (g i j))) : OpZ X f (zI C g) := by
  refine ⟨_, h, fun G H x y dx dy Q R hx hy q fin => ?_⟩
  unfold zI at q
  cases dx with
  | int i =>
    cases dy with
    | int j =>
      obtain rfl := hx.i
      obtain rfl := hy.i
      exact ⟨i, j, rfl, rfl, q.1.h, fin _ H _ (rs_d (.int _)) q.2⟩
    | _ => exact q.elim
  | _ => exact q.elim
theorem opz_i0 {f : Value → Value → PySem.Sem Value} {g : Int → Int → Int} (h : OpR X f (rI0 fun i j => .int (g i j))) : OpZ X f (zI0 g) := by
  refine ⟨_, h, fun G H x y dx dy Q R hx hy q fin => ?_⟩
  unfold zI0 at q
  cases dx with
  | int i =>
    cases dy with
    | int j =>
      obtain rfl := hx.i
      obtain rfl := hy.i
      exact ⟨i, j, rfl, rfl, fin _ H _ (rs_d (.int _)) q⟩
    | _ => exact q.elim
  | _ => exact q.elim
theorem opz_b0 {f : Value → Value → PySem.Sem Value} {g : Int → Int → Bool} (h : OpR X f (rI0 fun i j => .bl (g i j))) : OpZ X f (zB0 g) := by
  refine ⟨_, h, fun G H x y dx dy Q R hx hy q fin => ?_⟩
  unfold zB0 at q
  cases dx with
  | int i =>
    cases dy with
    | int j =>
      obtain rfl := hx.i
      obtain rfl := hy.i
      exact ⟨i, j, rfl, rfl, fin _ H _ (rs_d (.bl _)) q⟩
    | _ => exact q.elim
  | _ => exact q.elim
/-- what a product asks: together less than a million bits, or a short right factor -/
def CMulW (i j : Int) : Prop := L2.CMulW i j ∨ Builtin.Int.intBits j ≤ 64
theorem CMulW.ok {i j : Int} (h : CMulW i j) : PySem.IntMulOk i j := by
  rcases h with h | h
  · exact L2.CMulW.ok h
  · exact IntMulOk.of_right h
theorem op_mulV {X : Cx} : OpR X (binaryOp .Mult) (rI CMulW fun i j => .int (i * j)) := opI fun i j _ _ _ _ _ ok q => PyProof.Rows.mul_int q ok.ok
theorem mulR {i j : Int} (h : j.natAbs < 2 ^ 60) : CMulW i j := by
  refine .inr ?_
  unfold Builtin.Int.intBits
  split
  · omega
  · next z =>
    have : j.natAbs ≠ 0 := fun q => z (by simp; omega)
    have := (Nat.log2_lt this).mpr h
    omega
def zMulC : Z2 := fun x y Q => match x, y with
  | .int i, .int j => Sd (CMulW i j) ∧ Q (.d (.int (i * j)))
  | _, _ => False
def zSubC : Z2 := fun x y Q => match x, y with
  | .int i, .int j => Q (.d (.int (i - j)))
  | _, _ => False
def zFdivC : Z2 := fun x y Q => match x, y with
  | .int i, .int j => Sd (CDivW i j) ∧ Q (.d (.int (i / j)))
  | _, _ => False
def zModC : Z2 := fun x y Q => match x, y with
  | .int i, .int j => Sd (0 < j) ∧ Q (.d (.int (i % j)))
  | _, _ => False
def zPowC : Z2 := fun x y Q => match x, y with
  | .int i, .int j => Sd (CPow i j) ∧ Q (.d (.int (i ^ j.toNat)))
  | _, _ => False
def zShlC : Z2 := fun x y Q => match x, y with
  | .int i, .int j => Sd (CPow i j) ∧ Q (.d (.int (i * 2 ^ j.toNat)))
  | _, _ => False
def zShrC : Z2 := fun x y Q => match x, y with
  | .int i, .int j => Sd (0 ≤ j) ∧ Q (.d (.int (i / 2 ^ j.toNat)))
  | _, _ => False
def zBAndC : Z2 := fun x y Q => match x, y with
  | .int i, .int j => Q (.d (.int (Builtin.bitAnd i j)))
  | _, _ => False
def zBOrC : Z2 := fun x y Q => match x, y with
  | .int i, .int j => Q (.d (.int (Builtin.bitOr i j)))
  | _, _ => False
def zLtC : Z2 := fun x y Q => match x, y with
  | .int i, .int j => Q (.d (.bl (decide (i < j))))
  | _, _ => False
def zLeC : Z2 := fun x y Q => match x, y with
  | .int i, .int j => Q (.d (.bl (decide (i ≤ j))))
  | _, _ => False
def zGtC : Z2 := fun x y Q => match x, y with
  | .int i, .int j => Q (.d (.bl (decide (j < i))))
  | _, _ => False
def zGeC : Z2 := fun x y Q => match x, y with
  | .int i, .int j => Q (.d (.bl (decide (j ≤ i))))
  | _, _ => False
theorem oz_sub : OpZ X (binaryOp .Sub) zSubC := opz_i0 op_sub
theorem oz_fdiv : OpZ X (binaryOp .FloorDiv) zFdivC := opz_i op_fdivW
theorem oz_mod : OpZ X (binaryOp .Mod) zModC := opz_i op_mod
theorem oz_pow : OpZ X (binaryOp .Pow) zPowC := opz_i op_pow
theorem oz_shl : OpZ X (binaryOp .LShift) zShlC := opz_i op_shl
theorem oz_shr : OpZ X (binaryOp .RShift) zShrC := opz_i op_shr
theorem oz_and : OpZ X (binaryOp .BitAnd) zBAndC := opz_i0 op_and
theorem oz_or : OpZ X (binaryOp .BitOr) zBOrC := opz_i0 op_or
theorem oz_lt : OpZ X (compareOp .Lt) zLtC := opz_b0 op_lt
theorem oz_le : OpZ X (compareOp .LtE) zLeC := opz_b0 op_le
theorem oz_gt : OpZ X (compareOp .Gt) zGtC := opz_b0 op_gt
theorem oz_ge : OpZ X (compareOp .GtE) zGeC := opz_b0 op_ge
/-- a list + a list, whether they stand still or not -/
def rCatR : R2 := fun x y H Q => ∃ l b xs zs, x = .ref l ∧ y = .ref b ∧ Rd H l (.lst xs) ∧ Rd H b (.lst zs) ∧ xs.length + zs.length ≤ sizeLine ∧ ∀ p, H p = none → Q (.ref p) (upd H p (.lst (xs ++ zs)))
theorem op_catR : OpR X (binaryOp .Add) rCatR := by
  intro pins s σ H x y v u Q I rx ry h
  obtain ⟨l, b, xs, zs, rfl, rfl, hH, hB, hz, q⟩ := h
  cases rx
  cases ry
  obtain ⟨z, its, n, r, e⟩ := hH.ok I.hok
  obtain ⟨z2, its2, n2, r2, e2⟩ := hB.ok I.hok
  have hl := r.length
  have hl2 := r2.length
  refine PySem.P.add_list e e2 ?_ (by rw [List.size_toArray, List.size_toArray]; omega)
  have ea : its.toArray ++ its2.toArray = (its ++ its2).toArray := by simp
  rw [ea]
  exact ⟨.ref _, _, I.lnew (t' := s.toks) (r.append r2) (by rw [List.length_append]; omega), rfl, q _ I.fresh⟩
theorem rs_new {G : Addr → Prop} {H : Hp} {p : Addr} {xs : List V} {ds : List D} (np : H p = none) (r : DRs X.K G H xs ds) : RS X.K G H (upd H p (.lst xs)) (.ref p) (.new (.lst ds)) := by
  have k : Same H (upd H p (.lst xs)) := fun b o e => by rw [upd_ne (ne_of_none e np)]; exact e
  exact ⟨[p], k, .lst upd_same (r.kp (Kp.of k)), by simp, fun a h => by simp at h; rw [h]; exact np⟩
theorem rs_tup {G : Addr → Prop} {H : Hp} {p : Addr} {xs : List V} {ds : List D} (np : H p = none) (r : DRs X.K G H xs ds) : RS X.K G H (upd H p (.tup xs)) (.ref p) (.d (.tup ds)) := by
  have k : Same H (upd H p (.tup xs)) := fun b o e => by rw [upd_ne (ne_of_none e np)]; exact e
  exact ⟨k, .tup (SqT.of upd_same) (r.kp (Kp.of k))⟩
def zAddC : Z2 := fun x y Q => match x, y with
  | .int i, .int j => Q (.d (.int (i + j)))
  | .str a, .str b => Sd (a.length + b.length ≤ sizeLine) ∧ Q (.d (.str (a ++ b)))
  | .lst m xs, .lst n ys => Sd ((m != 2 && n != 2) = true) ∧ Sd (xs.length + ys.length ≤ sizeLine) ∧ Q (.new (.lst (xs ++ ys)))
  | .tup xs, .tup ys => Sd (xs.length + ys.length ≤ sizeLine) ∧ Q (.d (.tup (xs ++ ys)))
  | _, _ => False
theorem oz_add : OpZ X (binaryOp .Add) zAddC := by
  refine ⟨_, (op_add.or op_add_str).or (op_catR.or op_catA), fun G H x y dx dy Q R hx hy q fin => ?_⟩
  unfold zAddC at q
  cases dx with
  | int i =>
    cases dy with
    | int j => obtain rfl := hx.i; obtain rfl := hy.i; exact .inl (.inl ⟨i, j, rfl, rfl, fin _ H _ (rs_d (.int _)) q⟩)
    | _ => exact q.elim
  | str a =>
    cases dy with
    | str b => obtain rfl := hx.s; obtain rfl := hy.s; exact .inl (.inr ⟨a, b, rfl, rfl, q.1.h, fin _ H _ (rs_d (.str _)) q.2⟩)
    | _ => exact q.elim
  | lst m xs =>
    cases dy with
    | lst n ys =>
      have hm := q.1.h
      simp at hm
      obtain ⟨a, vs, rfl, h1, r1⟩ := hx.rd hm.1
      obtain ⟨b, ws, rfl, h2, r2⟩ := hy.rd hm.2
      refine .inr (.inl ⟨a, b, vs, ws, rfl, rfl, h1, h2, ?_, fun p np => fin _ _ _ (rs_new np (r1.append r2)) q.2.2⟩)
      rw [r1.length, r2.length]; exact q.2.1.h
    | _ => exact q.elim
  | tup xs =>
    cases dy with
    | tup ys =>
      obtain ⟨a, vs, rfl, h1, r1⟩ := hx.tq
      obtain ⟨b, ws, rfl, h2, r2⟩ := hy.tq
      refine .inr (.inr ⟨a, b, vs, ws, rfl, rfl, h1, h2, ?_, fun e => ?_, fun _ e => ?_, fun _ _ p np => fin _ _ _ (rs_tup np (r1.append r2)) q.2⟩)
      · rw [r1.length, r2.length]; exact q.1.h
      · subst e; cases r1; exact fin _ H _ (rs_d (.tup h2 r2)) q.2
      · subst e
        cases r2
        refine fin _ H (.d (.tup (xs ++ []))) ?_ q.2
        rw [List.append_nil]
        exact rs_d (.tup h1 r1)
    | _ => exact q.elim
  | _ => exact q.elim
/-- a list times an int, whether it stands still or not -/
def rRepR : R2 := fun x y H Q => ∃ l k xs, x = .ref l ∧ y = .int k ∧ H l = some (.lst xs) ∧ -(2 ^ 63) ≤ k ∧ k < 2 ^ 63 ∧ xs.length * k.toNat ≤ sizeLine ∧
  ∀ p, H p = none → Q (.ref p) (upd H p (.lst (List.replicate k.toNat xs).flatten))
theorem oz_mul : OpZ X (binaryOp .Mult) zMulC := by
  refine ⟨_, op_mulV, fun G H x y dx dy Q R hx hy q fin => ?_⟩
  unfold zMulC at q
  cases dx with
  | int i =>
    cases dy with
    | int j => obtain rfl := hx.i; obtain rfl := hy.i; exact ⟨i, j, rfl, rfl, q.1.h, fin _ H _ (rs_d (.int _)) q.2⟩
    | _ => exact q.elim
  | _ => exact q.elim
/-! == and != -/
/-- two that are told apart by their values alone -/
def sc2 : D → D → Bool
  | .non, .non => true | .non, .int _ => true | .int _, .non => true | .non, .bl _ => true | .bl _, .non => true | .non, .str _ => true | .str _, .non => true
  | .int _, .int _ => true | .bl _, .bl _ => true | .str _, .str _ => true
  | .int _, .str _ => true | .str _, .int _ => true | .bl _, .str _ => true | .str _, .bl _ => true
  | _, _ => false
def zEqC : Z2 := fun x y Q => match sc2 x y with
  | true => Q (.d (.bl (D.eq x y)))
  | false => Sd (x.pl 60 = true ∧ y.pl 60 = true) ∧ Q (.d (.bl (D.eq x y)))
def zNeC : Z2 := fun x y Q => match sc2 x y with
  | true => Q (.d (.bl (!D.eq x y)))
  | false => Sd (x.pl 60 = true ∧ y.pl 60 = true) ∧ Q (.d (.bl (!D.eq x y)))
theorem sc2_ok {K : Frag} {G : Addr → Prop} {H : Hp} {x y : V} {dx dy : D} (hx : VR K G H x dx) (hy : VR K G H y dy) (h : sc2 dx dy = true) : scal x y = true ∧ decide (x = y) = D.eq dx dy := by
  cases dx with
  | non =>
    obtain rfl := hx.n
    cases dy with
    | non => obtain rfl := hy.n; exact ⟨rfl, by simp [D.eq]⟩
    | bl b => obtain rfl := hy.b; exact ⟨rfl, by simp [D.eq]⟩
    | int i => obtain rfl := hy.i; exact ⟨rfl, by simp [D.eq]⟩
    | str i => obtain rfl := hy.s; exact ⟨rfl, by simp [D.eq]⟩
    | _ => cases h
  | bl a =>
    obtain rfl := hx.b
    cases dy with
    | non => obtain rfl := hy.n; exact ⟨rfl, by simp [D.eq]⟩
    | bl b => obtain rfl := hy.b; exact ⟨rfl, by simp [D.eq, Bool.beq_eq_decide_eq]⟩
    | str i => obtain rfl := hy.s; exact ⟨rfl, by simp [D.eq]⟩
    | _ => cases h
  | int a =>
    obtain rfl := hx.i
    cases dy with
    | non => obtain rfl := hy.n; exact ⟨rfl, by simp [D.eq]⟩
    | int b => obtain rfl := hy.i; exact ⟨rfl, by simp [D.eq]⟩
    | str i => obtain rfl := hy.s; exact ⟨rfl, by simp [D.eq]⟩
    | _ => cases h
  | str a =>
    obtain rfl := hx.s
    cases dy with
    | non => obtain rfl := hy.n; exact ⟨rfl, by simp [D.eq]⟩
    | bl b => obtain rfl := hy.b; exact ⟨rfl, by simp [D.eq]⟩
    | int i => obtain rfl := hy.i; exact ⟨rfl, by simp [D.eq]⟩
    | str i => obtain rfl := hy.s; exact ⟨rfl, by simp [D.eq]⟩
    | _ => cases h
  | _ => cases h
theorem oz_eq (hu : X.A.units + 64 < cLine) : OpZ X (compareOp .Eq) zEqC := by
  refine ⟨_, op_eq.or (op_eqD hu), fun G H x y dx dy Q R hx hy q fin => ?_⟩
  unfold zEqC at q
  cases hs : sc2 dx dy with
  | true =>
    simp only [hs] at q
    obtain ⟨h1, h2⟩ := sc2_ok hx hy hs
    exact .inl ⟨h1, by rw [h2]; exact fin _ H _ (rs_d (.bl _)) q⟩
  | false =>
    simp only [hs] at q
    obtain ⟨h1, h2⟩ := q.1.h
    refine .inr ⟨_, _, hx.dp h1, hy.dp h2, pl_shaped h1, pl_shaped h2, ?_⟩
    rw [eq_eqv h1 h2]
    exact fin _ H _ (rs_d (.bl _)) q.2
theorem oz_ne (hu : X.A.units + 64 < cLine) : OpZ X (compareOp .NotEq) zNeC := by
  refine ⟨_, op_ne.or (op_neD hu), fun G H x y dx dy Q R hx hy q fin => ?_⟩
  unfold zNeC at q
  cases hs : sc2 dx dy with
  | true =>
    simp only [hs] at q
    obtain ⟨h1, h2⟩ := sc2_ok hx hy hs
    exact .inl ⟨h1, by rw [h2]; exact fin _ H _ (rs_d (.bl _)) q⟩
  | false =>
    simp only [hs] at q
    obtain ⟨h1, h2⟩ := q.1.h
    refine .inr ⟨_, _, hx.dp h1, hy.dp h2, pl_shaped h1, pl_shaped h2, ?_⟩
    rw [eq_eqv h1 h2]
    exact fin _ H _ (rs_d (.bl _)) q.2
def D.isN : D → Bool
  | .non => true
  | _ => false
theorem isN_ok {K : Frag} {G : Addr → Prop} {H : Hp} {x : V} {dx : D} (hx : VR K G H x dx) : decide (x = .non) = dx.isN := by
  cases hx with
  | d h => cases h <;> simp [D.isN]
  | l a b => simp [D.isN]
  | k a e b => simp [D.isN]
def zIsC : Z2 := fun x y Q => match y with
  | .non => Q (.d (.bl x.isN))
  | .bl b => match x with
    | .bl a => Q (.d (.bl (decide (a = b))))
    | _ => False
  | _ => False
def zIsNotC : Z2 := fun x y Q => match y with
  | .non => Q (.d (.bl (!x.isN)))
  | _ => False
theorem oz_is : OpZ X (compareOp .Is) zIsC := by
  refine ⟨_, op_isN.or op_is_bl, fun G H x y dx dy Q R hx hy q fin => ?_⟩
  cases dy with
  | non => exact .inl ⟨hy.n, by rw [isN_ok hx]; exact fin _ H _ (rs_d (.bl _)) q⟩
  | bl b =>
    cases dx with
    | bl a =>
      obtain rfl := hx.b
      obtain rfl := hy.b
      exact .inr ⟨a, b, rfl, rfl, fin _ H _ (rs_d (.bl _)) q⟩
    | _ => exact q.elim
  | _ => exact q.elim
theorem oz_isnot : OpZ X (compareOp .IsNot) zIsNotC := by
  refine ⟨_, op_notN, fun G H x y dx dy Q R hx hy q fin => ?_⟩
  cases dy with
  | non => exact ⟨hy.n, by rw [isN_ok hx]; exact fin _ H _ (rs_d (.bl _)) q⟩
  | _ => exact q.elim
end

/-! ## arguments, displays -/
section
variable {X : Cx} {G : Addr → Prop} {B : Hp} {Wz : WZ} {k : Nat} {e a b c : Expr} {es : List Expr} {t ta tb tc : ZT} {ts : ZTA} {pos : Pos}
def zaNil : ZTA := fun ss Q => Q [] ss
def zaCons (t : ZT) (ts : ZTA) : ZTA := fun ss Q => zN t ss fun r s1 => match r with
  | .new _ => False
  | r => ts s1 fun rs s2 => Q (r :: rs) s2
theorem za_nil : ZA X G B [] zaNil := ⟨_, pa_nil, fun σ H ss Q R S hw fin => fin [] H [] ss (Kp.refl H) S trivial hw⟩
theorem za_cons (h : ZE X G B e t) (h2 : ZA X G B es ts) (hs : starEach (e :: es) X.env = (false, eval e X.env) :: starEach es X.env := by rfl) : ZA X G B (e :: es) (zaCons t ts) := by
  obtain ⟨te, p, z⟩ := z_n h
  obtain ⟨te2, p2, z2⟩ := h2
  refine ⟨_, pa_cons p p2 hs, fun σ H ss Q R S hw fin => ?_⟩
  refine z σ H ss _ _ S hw fun v H1 r s1 k1 rr q => ?_
  cases r with
  | new o => exact q.elim
  | d x => exact z2 σ H1 s1 _ _ rr.1 q fun vs H2 rs s2 k2 S2 ar q2 => fin (v :: vs) H2 (.d x :: rs) s2 (k1.trans k2) S2 ⟨rr.2.kp k2, ar⟩ q2
  | loc i => exact z2 σ H1 s1 _ _ rr.1 q fun vs H2 rs s2 k2 S2 ar q2 => fin (v :: vs) H2 (.loc i :: rs) s2 (k1.trans k2) S2 ⟨rr.2, ar⟩ q2
/-! arguments that become part of something: data -/
abbrev ZTDs := SS → (List D → SS → Prop) → Prop
def ZrDs (K : Frag) (G : Addr → Prop) (B : Hp) (te : TA) (t : ZTDs) : Prop := ∀ (σ : St) (H : Hp) (ss : SS) (Q : List D → SS → Prop) (R : List V → Hp → Prop), Sm K G B [] σ H ss → t ss Q →
  (∀ vs H' ds ss', Kp H H' → Sm K G B [] σ H' ss' → DRs K G H' vs ds → Q ds ss' → R vs H') → te σ H R
def ZDs (X : Cx) (G : Addr → Prop) (B : Hp) (es : List Expr) (t : ZTDs) : Prop := ∃ te, PA X es te ∧ ZrDs X.K G B te t
def zdNil : ZTDs := fun ss Q => Q [] ss
def zdCons (t : ZT) (ts : ZTDs) : ZTDs := fun ss Q => zF t ss fun d s1 => ts s1 fun ds s2 => Q (d :: ds) s2
theorem zd_nil : ZDs X G B [] zdNil := ⟨_, pa_nil, fun σ H ss Q R S hw fin => fin [] H [] ss (Kp.refl H) S .nil hw⟩
theorem zd_cons {ts : ZTDs} (h : ZE X G B e t) (h2 : ZDs X G B es ts) (hs : starEach (e :: es) X.env = (false, eval e X.env) :: starEach es X.env := by rfl) : ZDs X G B (e :: es) (zdCons t ts) := by
  obtain ⟨te, p, z⟩ := z_fz h
  obtain ⟨te2, p2, z2⟩ := h2
  refine ⟨_, pa_cons p p2 hs, fun σ H ss Q R S hw fin => ?_⟩
  refine z σ H ss _ _ S hw fun v H1 d s1 k1 S1 r q => ?_
  exact z2 σ H1 s1 _ _ S1 q fun vs H2 ds s2 k2 S2 ar q2 => fin (v :: vs) H2 (d :: ds) s2 (k1.trans k2) S2 (.cons (r.kp k2) ar) q2
def zLst (ts : ZTDs) : ZT := fun ss Q => ts ss fun ds s => Sd (ds.length ≤ sizeLine) ∧ Q (.new (.lst ds)) s
def zTup (ts : ZTDs) : ZT := fun ss Q => ts ss fun ds s => Sd (ds.length ≤ sizeLine) ∧ Q (.d (.tup ds)) s
theorem z_lst {ts : ZTDs} (h : ZDs X G B es ts) : ZE X G B (.List es pos) (zLst ts) := by
  obtain ⟨te, p, z⟩ := h
  refine ⟨_, pe_lst p, fun σ H ss Q R S hw fin => ?_⟩
  refine z σ H ss _ _ S hw fun vs H1 ds s1 k1 S1 r q => ⟨by rw [r.length]; exact q.1.h, fun p np => ?_⟩
  have rs := rs_new (X := X) np r
  exact fin _ _ _ s1 (k1.trans (Kp.of rs.same)) (rs.rr S1) q.2
theorem z_tup {ts : ZTDs} {x1} (h : ZDs X G B es ts) : ZE X G B (.Tuple es x1 pos) (zTup ts) := by
  obtain ⟨te, p, z⟩ := h
  refine ⟨_, pe_tup p, fun σ H ss Q R S hw fin => ?_⟩
  refine z σ H ss _ _ S hw fun vs H1 ds s1 k1 S1 r q => ⟨by rw [r.length]; exact q.1.h, fun p np => ?_⟩
  have rs := rs_tup (X := X) np r
  exact fin _ _ _ s1 (k1.trans (Kp.of rs.same)) (rs.rr S1) q.2
/-! ## subscripts -/
theorem atI_some {α β : Type} {xs : List α} {ys : List β} {i : Int} {y : β} (hl : xs.length = ys.length) (h : atI ys i = some y) : ∃ (x : α) (j : Nat), atI xs i = some x ∧ xs[j]? = some x ∧ ys[j]? = some y := by
  unfold atI at h ⊢
  rw [hl]
  cases e : ixN ys.length i with
  | none => rw [e] at h; cases h
  | some j =>
    rw [e] at h
    have hj : j < ys.length := (List.getElem?_eq_some_iff.mp h).1
    obtain ⟨x, hx⟩ : ∃ x, xs[j]? = some x := ⟨xs[j]'(by omega), by simp [hl, hj]⟩
    exact ⟨x, j, hx, hx, h⟩
def zIxC : Z2 := fun x y Q => match x, y with
  | .lst _ xs, .int i => ∃ d, atI xs i = some d ∧ Q (.d d)
  | .tup xs, .int i => ∃ d, atI xs i = some d ∧ Q (.d d)
  | .str z, .int i => Sd (z.length ≤ sizeLine) ∧ ∃ c, atI z.cps.toList i = some c ∧ Q (.d (.str ⟨#[c]⟩))
  | _, _ => False
theorem z_ix (ha : ZE X G B a ta) (hb : ZE X G B b tb) (hs : PlainIx b := by exact fun _ _ => rfl) : ZE X G B (.Subscript a b pos) (zBin zIxC ta tb) := by
  obtain ⟨tea, pa, za⟩ := z_n ha
  obtain ⟨teb, pb, zb⟩ := z_n hb
  refine ⟨_, pe_ix ix_seq pa pb hs, bin_zr za zb fun G H x y dx dy Q R hx hy q fin => ?_⟩
  unfold zIxC at q
  cases dx with
  | lst m xs =>
    cases dy with
    | int i =>
      obtain rfl := hy.i
      obtain ⟨p, vs, rfl, hq, r⟩ := hx.sq
      obtain ⟨d, e, q⟩ := q
      obtain ⟨v, j, e1, e2, e3⟩ := atI_some r.length e
      obtain ⟨v', e4, rd⟩ := r.get e3
      rw [e2] at e4; cases e4
      exact .inl ⟨p, vs, i, v, rfl, rfl, hq, e1, fin v H _ (rs_d rd) q⟩
    | _ => exact q.elim
  | tup xs =>
    cases dy with
    | int i =>
      obtain rfl := hy.i
      obtain ⟨p, vs, rfl, hq, r⟩ := hx.tq
      obtain ⟨d, e, q⟩ := q
      obtain ⟨v, j, e1, e2, e3⟩ := atI_some r.length e
      obtain ⟨v', e4, rd⟩ := r.get e3
      rw [e2] at e4; cases e4
      exact .inr (.inl ⟨p, vs, i, v, rfl, rfl, hq, e1, fin v H _ (rs_d rd) q⟩)
    | _ => exact q.elim
  | str z =>
    cases dy with
    | int i =>
      obtain rfl := hx.s
      obtain rfl := hy.i
      obtain ⟨hz, c, e, q⟩ := q
      exact .inr (.inr ⟨z, i, c, rfl, rfl, hz.h, e, fin _ H _ (rs_d (.str _)) q⟩)
    | _ => exact q.elim
  | _ => exact q.elim
/-! slices -/
abbrev ZTO := SS → (Option Int → SS → Prop) → Prop
def ZO (X : Cx) (G : Addr → Prop) (B : Hp) (e : Option Expr) (t : ZTO) : Prop := ∃ te : TO, PO X e te ∧ ∀ (σ : St) (H : Hp) (ss : SS) (Q : Option Int → SS → Prop) (R : Option Int → Hp → Prop), Sm X.K G B [] σ H ss → t ss Q →
  (∀ o H' ss', Kp H H' → Sm X.K G B [] σ H' ss' → Q o ss' → R o H') → te σ H R
def zoN : ZTO := fun ss Q => Q none ss
def zoS (t : ZT) : ZTO := fun ss Q => t ss fun r s => match r with
  | .d (.int i) => Q (some i) s
  | _ => False
theorem zo_none : ZO X G B none zoN := ⟨_, po_none, fun σ H ss Q R S hw fin => fin none H ss (Kp.refl H) S hw⟩
theorem zo_some (h : ZE X G B e t) : ZO X G B (some e) (zoS t) := by
  obtain ⟨te, p, z⟩ := h
  refine ⟨_, po_some p, fun σ H ss Q R S hw fin => z σ H ss _ _ S hw fun v H1 r s1 k1 rr q => ?_⟩
  cases r with
  | d x =>
    cases x with
    | int i =>
      obtain ⟨S1, r⟩ := rr
      cases r
      exact ⟨i, rfl, fin _ H1 s1 k1 S1 q⟩
    | _ => exact q.elim
  | _ => exact q.elim
def cutD {α : Type} (xs : List α) (lo hi : Option Int) : List α := (xs.drop (HT.sIx xs.length 0 lo)).take (HT.sIx xs.length xs.length hi - HT.sIx xs.length 0 lo)
def zSl (t : ZT) (tl th : ZTO) : ZT := fun ss Q => zN t ss fun r s1 => tl s1 fun lo s2 => th s2 fun hi s3 => match cv s3 r with
  | some (.lst _ xs) => Q (.new (.lst (cutD xs lo hi))) s3
  | some (.tup xs) => Q (.d (.tup (cutD xs lo hi))) s3
  | some (.str z) => Sd (z.length ≤ sizeLine) ∧ Q (.d (.str (cutS z lo hi))) s3
  | _ => False
theorem DRs.cut {K : Frag} {H : Hp} {vs : List V} {ds : List D} (h : DRs K G H vs ds) (lo hi : Option Int) : DRs K G H (cutV vs lo hi) (cutD ds lo hi) := by
  unfold cutV cutD
  rw [h.length]
  exact (h.drop _).take _
theorem z_sl {lo hi : Option Expr} {tl th : ZTO} {p2 : Pos} (h : ZE X G B e t) (hl : ZO X G B lo tl) (hh : ZO X G B hi th) : ZE X G B (.Subscript e (.Slice lo hi none p2) pos) (zSl t tl th) := by
  obtain ⟨te, p, z⟩ := z_n h
  obtain ⟨te1, p1, z1⟩ := hl
  obtain ⟨te2, p2, z2⟩ := hh
  refine ⟨_, pe_slice (sl_list.or (sl_tupA.or sl_str)) p p1 p2, fun σ H ss Q R S hw fin => ?_⟩
  refine z σ H ss _ _ S hw fun v H1 r s1 k1 rr q => ?_
  refine z1 σ H1 s1 _ _ rr.sem q fun lo H2 s2 k2 S2 q2 => ?_
  refine z2 σ H2 s2 _ _ S2 q2 fun hi H3 s3 k3 S3 q3 => ?_
  have kk := (k1.trans k2).trans k3
  cases ev : cv s3 r with
  | none => simp only [ev] at q3
  | some x =>
    have vr := cv_vr S3 (k2.trans k3) rr ev
    cases x with
    | lst m xs =>
      simp only [ev] at q3
      obtain ⟨a, vs, rfl, hq, rs⟩ := vr.sq
      refine .inl ⟨a, vs, rfl, hq, fun p np => ?_⟩
      have rn := rs_new (X := X) np (rs.cut lo hi)
      exact fin _ _ _ s3 (kk.trans (Kp.of rn.same)) (rn.rr S3) q3
    | tup xs =>
      simp only [ev] at q3
      obtain ⟨a, vs, rfl, hq, rs⟩ := vr.tq
      refine .inr (.inl ⟨a, vs, rfl, hq, fun hw => ?_, fun _ p np => ?_⟩)
      · have e : cutD xs lo hi = xs := by
          unfold cutD
          rw [← rs.length, hw.1, hw.2]
          simp [rs.length]
        rw [e] at q3
        exact fin _ H3 _ s3 kk (.d' S3 (.tup hq rs)) q3
      · have rn := rs_tup (X := X) np (rs.cut lo hi)
        exact fin _ _ _ s3 (kk.trans (Kp.of rn.same)) (rn.rr S3) q3
    | str zz =>
      simp only [ev] at q3
      obtain rfl := vr.s
      exact .inr (.inr ⟨zz, rfl, q3.1.h, fin _ H3 _ s3 kk (.d' S3 (.str _)) q3.2⟩)
    | _ => simp only [ev] at q3
/-! ## calls of built-in things -/
def cvs (ss : SS) : List RV → Option (List D)
  | [] => some []
  | r :: rs => match cv ss r, cvs ss rs with
    | some d, some ds => some (d :: ds)
    | _, _ => none
inductive VRs (K : Frag) (G : Addr → Prop) (H : Hp) : List V → List D → Prop
  | nil : VRs K G H [] []
  | cons {v : V} {d : D} {vs : List V} {ds : List D} : VR K G H v d → VRs K G H vs ds → VRs K G H (v :: vs) (d :: ds)
theorem VRs.length {K : Frag} {H : Hp} {vs : List V} {ds : List D} (h : VRs K G H vs ds) : vs.length = ds.length := by
  induction h with
  | nil => rfl
  | cons _ _ ih => simp [ih]
theorem cvs_vr {K : Frag} {σ : St} {H : Hp} {ss : SS} (S : Sm K G B [] σ H ss) : ∀ {rs : List RV} {vs : List V} {ds : List D}, AR K G σ H vs rs → cvs ss rs = some ds → VRs K G H vs ds
  | [], [], _, _, e => by simp [cvs] at e; subst e; exact .nil
  | [], _ :: _, _, h, _ => h.elim
  | .d x :: rs, v :: vs, ds, h, e => by
    cases e1 : cv ss (.d x) with
    | none => simp [cvs, e1] at e
    | some y =>
      cases e2 : cvs ss rs with
      | none => simp [cvs, e1, e2] at e
      | some ys =>
        simp [cvs, e1, e2] at e; subst e
        exact .cons (cv_vr S (Kp.refl _) (.d' S h.1) e1) (cvs_vr S h.2 e2)
  | .loc i :: rs, v :: vs, ds, h, e => by
    cases e1 : cv ss (.loc i) with
    | none => simp [cvs, e1] at e
    | some y =>
      cases e2 : cvs ss rs with
      | none => simp [cvs, e1, e2] at e
      | some ys =>
        simp [cvs, e1, e2] at e; subst e
        exact .cons (cv_vr S (Kp.refl _) (.l' S h.1) e1) (cvs_vr S h.2 e2)
  | .new o :: rs, v :: vs, ds, h, e => h.elim
  | .d x :: rs, [], ds, h, e => h.elim
  | .loc x :: rs, [], ds, h, e => h.elim
  | .new x :: rs, [], ds, h, e => h.elim
abbrev ZL := List D → (RV → Prop) → Prop
def CalZ (X : Cx) (f : Value) (z : ZL) : Prop := ∃ r, CallR X f r ∧ ∀ (G : Addr → Prop) (H : Hp) (vs : List V) (ds : List D) (Q : RV → Prop) (R : VK), VRs X.K G H vs ds → z ds Q → (∀ v H' rv, RS X.K G H H' v rv → Q rv → R v H') → r vs H R
def zCB (z : ZL) (ts : ZTA) : ZT := fun ss Q => ts ss fun rs s => match cvs s rs with
  | some ds => z ds fun r => Q r s
  | none => False
theorem cb_zr {z : ZL} {r} {te : TA} (h : ZrA X.K G B te ts) (hr : ∀ (G : Addr → Prop) (H : Hp) (vs : List V) (ds : List D) (Q : RV → Prop) (R : VK), VRs X.K G H vs ds → z ds Q → (∀ v H' rv, RS X.K G H H' v rv → Q rv → R v H') → r vs H R) :
    Zr X.K G B (tCB r te) (zCB z ts) := by
  intro σ H ss Q R S hw fin
  refine h σ H ss _ _ S hw fun vs H1 rs s1 k1 S1 ar q => ?_
  cases e : cvs s1 rs with
  | none => simp only [e] at q
  | some ds =>
    simp only [e] at q
    exact hr G H1 vs ds _ _ (cvs_vr S1 ar e) q fun v H2 rv rs q2 => fin v H2 rv s1 (k1.trans (Kp.of rs.same)) (rs.rr S1) q2
theorem z_callB {x : Str} {id : String} {z : ZL} {p : Pos} (hc : CalZ X (.builtin id) z) (hg : Gl X x) (hm : X.mg x = none) (hv : bootBuiltins x = some (.builtin id)) (ha : ZA X G B (e :: es) ts) (hn : x ≠ "__name__" := by decide) (hdb : (x == ("__debug__" : Str)) = false := by decide)
    (he : starEach (e :: es) X.env = (false, eval e X.env) :: starEach es X.env := by rfl) (hpl : (backTo pos (starEach es X.env)).any (·.1) = false := by rfl) : ZE X G B (.Call (.Name x p) (e :: es) [] pos) (zCB z ts) := by
  obtain ⟨r, h1, h2⟩ := hc
  obtain ⟨te, pa, za⟩ := ha
  exact ⟨_, pe_callB h1 hg hm hv pa hn hdb he hpl, cb_zr za h2⟩
theorem z_callTy {x : Str} {T : String} {z : ZL} {p : Pos} (hc : CalZ X (.type T) z) (hg : Gl X x) (hm : X.mg x = none) (hv : bootBuiltins x = some (.type T)) (ha : ZA X G B (e :: es) ts) (hn : x ≠ "__name__" := by decide) (hdb : (x == ("__debug__" : Str)) = false := by decide)
    (he : starEach (e :: es) X.env = (false, eval e X.env) :: starEach es X.env := by rfl) (hpl : (backTo pos (starEach es X.env)).any (·.1) = false := by rfl) : ZE X G B (.Call (.Name x p) (e :: es) [] pos) (zCB z ts) := by
  obtain ⟨r, h1, h2⟩ := hc
  obtain ⟨te, pa, za⟩ := ha
  exact ⟨_, pe_callTy h1 hg hm hv pa hn hdb he hpl, cb_zr za h2⟩
/-! len, list, tuple, sum, all, any, min, max, isinstance -/
def zLenC : ZL := fun ds Q => match ds with
  | [.lst _ xs] => Q (.d (.int xs.length))
  | [.tup xs] => Q (.d (.int xs.length))
  | [.str z] => Sd (z.length ≤ sizeLine) ∧ Q (.d (.int z.length))
  | _ => False
theorem cz_len : CalZ X (.builtin "len") zLenC := by
  refine ⟨_, call_len_seq.or call_len_str, fun G H vs ds Q R h q fin => ?_⟩
  cases h with
  | nil => exact q.elim
  | @cons v d vs ds r rs =>
    cases rs with
    | cons _ _ => cases d <;> exact q.elim
    | nil =>
      cases d with
      | lst m xs =>
        obtain ⟨a, ws, rfl, hq, rr⟩ := r.sq
        exact .inl ⟨a, ws, rfl, .inl hq, by rw [rr.length]; exact fin _ H _ (rs_d (.int _)) q⟩
      | tup xs =>
        obtain ⟨a, ws, rfl, hq, rr⟩ := r.tq
        exact .inl ⟨a, ws, rfl, .inr hq, by rw [rr.length]; exact fin _ H _ (rs_d (.int _)) q⟩
      | str z =>
        obtain rfl := r.s
        exact .inr ⟨z, rfl, q.1.h, fin _ H _ (rs_d (.int _)) q.2⟩
      | _ => exact q.elim
def zListC : ZL := fun ds Q => match ds with
  | [.lst _ xs] => Q (.new (.lst xs))
  | [.tup xs] => Q (.new (.lst xs))
  | _ => False
theorem cz_list : CalZ X (.type "list") zListC := by
  refine ⟨_, call_list_of, fun G H vs ds Q R h q fin => ?_⟩
  cases h with
  | nil => exact q.elim
  | @cons v d vs ds r rs =>
    cases rs with
    | cons _ _ => cases d <;> exact q.elim
    | nil =>
      cases d with
      | lst m xs =>
        obtain ⟨a, ws, rfl, hq, rr⟩ := r.sq
        exact ⟨a, ws, rfl, .inl hq, fun p np => fin _ _ _ (rs_new np rr) q⟩
      | tup xs =>
        obtain ⟨a, ws, rfl, hq, rr⟩ := r.tq
        exact ⟨a, ws, rfl, .inr hq, fun p np => fin _ _ _ (rs_new np rr) q⟩
      | _ => exact q.elim
def zTupleC : ZL := fun ds Q => match ds with
  | [.lst _ xs] => Q (.d (.tup xs))
  | [.tup xs] => Q (.d (.tup xs))
  | _ => False
theorem cz_tuple : CalZ X (.type "tuple") zTupleC := by
  refine ⟨_, call_tuple_of, fun G H vs ds Q R h q fin => ?_⟩
  cases h with
  | nil => exact q.elim
  | @cons v d vs ds r rs =>
    cases rs with
    | cons _ _ => cases d <;> exact q.elim
    | nil =>
      cases d with
      | lst m xs =>
        obtain ⟨a, ws, rfl, hq, rr⟩ := r.sq
        exact ⟨a, ws, rfl, .inl ⟨hq, fun p np => fin _ _ _ (rs_tup np rr) q⟩⟩
      | tup xs =>
        obtain ⟨a, ws, rfl, hq, rr⟩ := r.tq
        exact ⟨a, ws, rfl, .inr ⟨hq, fin _ _ _ (rs_d (.tup hq rr)) q⟩⟩
      | _ => exact q.elim
/-- one list of ints, of bools -/
theorem VRs.one {K : Frag} {H : Hp} {vs : List V} {d : D} (h : VRs K G H vs [d]) : ∃ v, vs = [v] ∧ VR K G H v d := by
  cases h with
  | cons r rs => cases rs; exact ⟨_, rfl, r⟩
theorem VRs.two {K : Frag} {H : Hp} {vs : List V} {d d' : D} (h : VRs K G H vs [d, d']) : ∃ v v', vs = [v, v'] ∧ VR K G H v d ∧ VR K G H v' d' := by
  cases h with
  | cons r rs =>
    cases rs with
    | cons r' rs => cases rs; exact ⟨_, _, rfl, r, r'⟩
theorem DRs.bls {K : Frag} {H : Hp} : ∀ {bs : List Bool} {vs : List V}, DRs K G H vs (bs.map D.bl) → vs = bs.map V.bl
  | [], _, h => by cases h; rfl
  | n :: ns, _, h => by cases h with | cons a b => cases a; rw [DRs.bls b]; rfl
def zSumC : ZL := fun ds Q => ∃ (m : Nat) (ns : List Int), ds = [.lst m (ns.map D.int)] ∧ Q (.d (.int ns.sum))
theorem cz_sum (hc : X.calm = true) : CalZ X (.builtin "sum") zSumC := by
  refine ⟨_, cr_sum hc, fun G H vs ds Q R h q fin => ?_⟩
  obtain ⟨m, ns, rfl, q⟩ := q
  obtain ⟨v, rfl, r⟩ := h.one
  obtain ⟨a, ws, rfl, hq, rr⟩ := r.sq
  obtain rfl := rr.ints
  exact ⟨a, ns, rfl, hq, fin _ H _ (rs_d (.int _)) q⟩
def zMaxC : ZL := fun ds Q => (∃ (m : Nat) (ns : List Int), ds = [.lst m (ns.map D.int)] ∧ Sd (0 < ns.length) ∧ ∀ m, m ∈ ns → (∀ y, y ∈ ns → y ≤ m) → Q (.d (.int m))) ∨ ∃ (i j : Int), ds = [.int i, .int j] ∧ Q (.d (.int (if j > i then j else i)))
theorem cz_max (hc : X.calm = true) : CalZ X (.builtin "max") zMaxC := by
  refine ⟨_, (cr_max hc).or (call_max2 hc), fun G H vs ds Q R h q fin => ?_⟩
  rcases q with ⟨m, ns, rfl, hl, q⟩ | ⟨i, j, rfl, q⟩
  · obtain ⟨v, rfl, r⟩ := h.one
    obtain ⟨a, ws, rfl, hq, rr⟩ := r.sq
    obtain rfl := rr.ints
    exact .inl ⟨a, ns, rfl, hq, hl.h, fun m h1 h2 => fin _ H _ (rs_d (.int _)) (q m h1 h2)⟩
  · obtain ⟨v, w, rfl, r1, r2⟩ := h.two
    obtain rfl := r1.i; obtain rfl := r2.i
    exact .inr ⟨i, j, rfl, fin _ H _ (rs_d (.int _)) q⟩
def zMinC : ZL := fun ds Q => (∃ (m : Nat) (ns : List Int), ds = [.lst m (ns.map D.int)] ∧ Sd (0 < ns.length) ∧ ∀ m, m ∈ ns → (∀ y, y ∈ ns → m ≤ y) → Q (.d (.int m))) ∨ ∃ (i j : Int), ds = [.int i, .int j] ∧ Q (.d (.int (if j < i then j else i)))
theorem cz_min (hc : X.calm = true) : CalZ X (.builtin "min") zMinC := by
  refine ⟨_, (cr_min hc).or (call_min2 hc), fun G H vs ds Q R h q fin => ?_⟩
  rcases q with ⟨m, ns, rfl, hl, q⟩ | ⟨i, j, rfl, q⟩
  · obtain ⟨v, rfl, r⟩ := h.one
    obtain ⟨a, ws, rfl, hq, rr⟩ := r.sq
    obtain rfl := rr.ints
    exact .inl ⟨a, ns, rfl, hq, hl.h, fun m h1 h2 => fin _ H _ (rs_d (.int _)) (q m h1 h2)⟩
  · obtain ⟨v, w, rfl, r1, r2⟩ := h.two
    obtain rfl := r1.i; obtain rfl := r2.i
    exact .inr ⟨i, j, rfl, fin _ H _ (rs_d (.int _)) q⟩
def zAllC : ZL := fun ds Q => ∃ (m : Nat) (bs : List Bool), ds = [.lst m (bs.map D.bl)] ∧ Q (.d (.bl (bs.all id)))
theorem cz_all (hc : X.calm = true) : CalZ X (.builtin "all") zAllC := by
  refine ⟨_, cr_all hc, fun G H vs ds Q R h q fin => ?_⟩
  obtain ⟨m, ns, rfl, q⟩ := q
  obtain ⟨v, rfl, r⟩ := h.one
  obtain ⟨a, ws, rfl, hq, rr⟩ := r.sq
  obtain rfl := rr.bls
  exact ⟨a, ns, rfl, hq, fin _ H _ (rs_d (.bl _)) q⟩
/-- int(n), int(b) -/
def zIntC : ZL := fun ds Q => match ds with
  | [.int i] => Q (.d (.int i))
  | [.bl b] => Q (.d (.int (if b then 1 else 0)))
  | _ => False
theorem cz_int : CalZ X (.type "int") zIntC := by
  refine ⟨_, call_int1, fun G H vs ds Q R h q fin => ?_⟩
  cases h with
  | nil => exact q.elim
  | @cons v d vs ds r rs =>
    cases rs with
    | cons _ _ => cases d <;> exact q.elim
    | nil =>
      cases d with
      | int i => obtain rfl := r.i; exact .inl ⟨i, rfl, fin _ H _ (rs_d (.int _)) q⟩
      | bl b => obtain rfl := r.b; exact .inr ⟨b, rfl, fin _ H _ (rs_d (.int _)) q⟩
      | _ => exact q.elim
end

/-! ## lending: lists stand still while a callee looks at them -/
/-- what may be lent -/
def Lk : HO → Prop
  | .lst _ => True
  | .dK _ => True
  | _ => False
theorem Lk.mut {u : HO} (h : Lk u) : Mut (some u) := by cases u <;> first | exact trivial | exact h.elim
/-- what is not lent, nor a lent thing locked -/
def Nk : HO → Prop
  | .lst _ => False
  | .dK _ => False
  | .frz _ (.lst _) => False
  | .frz _ (.dK _) => False
  | _ => True
theorem Nk.no {u : HO} (h : Nk u) : ¬ Lk u := by cases u <;> first | exact fun z => z | exact fun _ => h
theorem Nk.nf {o : Obj} {u : HO} (h : Nk (.frz o u)) : ¬ Lk u := by cases u <;> first | exact fun z => z | exact fun _ => h
section
variable {K : Frag} {G G' : Addr → Prop} {H H1 : Hp}
theorem sqT_to (k : ∀ a u, H a = some u → Nk u → H1 a = some u) {a : Addr} {xs : List V} (h : SqT K H a xs) : SqT K H1 a xs := by
  rcases h with (h | ⟨o, h⟩) | h
  · exact .inl (.inl (k _ _ h trivial))
  · exact .inl (.inr ⟨o, k _ _ h trivial⟩)
  · exact .inr h
mutual
theorem DR.go (k : Kp H H1) (hg : ∀ a o u, H a = some (.frz o u) → (G' a ↔ G a)) : ∀ {d : D} {v : V}, DR K G H v d → DR K G' H1 v d
  | .non, _, h => by cases h; exact .non
  | .bl b, _, h => by cases h; exact .bl b
  | .int i, _, h => by cases h; exact .int i
  | .str s, _, h => by cases h; exact .str s
  | .ty n, _, h => by cases h; exact .ty n
  | .adr a, _, h => by cases h; exact .adr a
  | .tup ds, _, h => by cases h with | tup a b => exact .tup (sqT_kp k a) (DRs.go k hg b)
  | .lst m ds, _, h => by
    cases h with
    | lst0 a g b => exact .lst0 (k.frz _ _ _ a) (fun q => g ((hg _ _ _ a).mp q)) (DRs.go k hg b)
    | lst1 a g b => exact .lst1 (k.frz _ _ _ a) ((hg _ _ _ a).mpr g) (DRs.go k hg b)
    | lst2 a b => exact .lst2 a (DRs.go k hg b)
  | .obj C ns ds, _, h => by cases h with | obj c a e b => exact .obj c (k.frz _ _ _ a) e (DRs.go k hg b)
  | .dct m ks ds, _, h => by
    cases h with
    | dct0 a g e b => exact .dct0 (k.frz _ _ _ a) (fun q => g ((hg _ _ _ a).mp q)) e (DRs.go k hg b)
    | dct1 a g e b => exact .dct1 (k.frz _ _ _ a) ((hg _ _ _ a).mpr g) e (DRs.go k hg b)
  | .exc C ns ds, _, h => by cases h with | exc c a e f x i b => exact .exc c (k.frz _ _ _ a) e f (x.imp (fun q => q) fun ⟨p, h1, h2⟩ => ⟨p, h1, k.xd _ _ h2⟩) i (DRs.go k hg b)
theorem DRs.go (k : Kp H H1) (hg : ∀ a o u, H a = some (.frz o u) → (G' a ↔ G a)) : ∀ {ds : List D} {vs : List V}, DRs K G H vs ds → DRs K G' H1 vs ds
  | [], _, h => by cases h; exact .nil
  | d :: ds, _, h => by cases h with | cons a b => exact .cons (DR.go k hg a) (DRs.go k hg b)
end
mutual
/-- what holds no lent list stays when lists are given back -/
theorem DR.ret (k : ∀ a u, H a = some u → Nk u → H1 a = some u) (hg : ∀ a o u, Lk u → H a = some (.frz o u) → ¬ G' a → H1 a = some (.frz o u) ∧ ¬ G a) : ∀ {d : D} {v : V}, DR K G' H v d → d.nb = true → DR K G H1 v d
  | .non, _, h, _ => by cases h; exact .non
  | .bl b, _, h, _ => by cases h; exact .bl b
  | .int i, _, h, _ => by cases h; exact .int i
  | .str s, _, h, _ => by cases h; exact .str s
  | .ty n, _, h, _ => by cases h; exact .ty n
  | .adr a, _, h, _ => by cases h; exact .adr a
  | .tup ds, _, h, n => by cases h with | tup a b => exact .tup (sqT_to k a) (DRs.ret k hg b (by simpa [D.nb] using n))
  | .lst m ds, _, h, n => by
    have n2 : D.nbs ds = true := by simp [D.nb] at n; exact n.2
    cases h with
    | lst0 a g b => exact .lst0 (hg _ _ (.lst _) trivial a g).1 (hg _ _ (.lst _) trivial a g).2 (DRs.ret k hg b n2)
    | lst1 a g b => simp [D.nb] at n
    | lst2 a b => exact .lst2 a (DRs.ret k hg b n2)
  | .obj C ns ds, _, h, n => by
    cases h with
    | obj c a e b => exact .obj c (k _ _ a trivial) e (DRs.ret k hg b (by simpa [D.nb] using n))
  | .dct m ks ds, _, h, n => by
    have n2 : D.nbs ds = true := by simp [D.nb] at n; exact n.2
    cases h with
    | dct0 a g e b => exact .dct0 (hg _ _ (.dK _) trivial a g).1 (hg _ _ (.dK _) trivial a g).2 e (DRs.ret k hg b n2)
    | dct1 a g e b => simp [D.nb] at n
  | .exc C ns ds, _, h, n => by
    cases h with
    | exc c a e f x i b => exact .exc c (k _ _ a trivial) e f (x.imp (fun q => q) fun ⟨p, h1, h2⟩ => ⟨p, h1, k _ _ h2 trivial⟩) i (DRs.ret k hg b (by simpa [D.nb] using n))
theorem DRs.ret (k : ∀ a u, H a = some u → Nk u → H1 a = some u) (hg : ∀ a o u, Lk u → H a = some (.frz o u) → ¬ G' a → H1 a = some (.frz o u) ∧ ¬ G a) : ∀ {ds : List D} {vs : List V}, DRs K G' H vs ds → D.nbs ds = true → DRs K G H1 vs ds
  | [], _, h, _ => by cases h; exact .nil
  | d :: ds, _, h, n => by
    simp [D.nbs] at n
    cases h with | cons a b => exact .cons (DR.ret k hg a n.1) (DRs.ret k hg b n.2)
end
mutual
theorem OR.ret (k : ∀ a u, H a = some u → Nk u → H1 a = some u) (hg : ∀ a o u, Lk u → H a = some (.frz o u) → ¬ G' a → H1 a = some (.frz o u) ∧ ¬ G a) : ∀ {o : O} {v : V} {as : List Addr}, OR K G' H v o as → (∀ a ∈ as, H1 a = H a) → o.nb = true → OR K G H1 v o as
  | .pure d, _, _, h, _, n => by cases h with | pure a => exact .pure (a.ret k hg (by simpa [O.nb] using n))
  | .lst ds, _, _, h, q, n => by cases h with | lst a b => exact .lst (by rw [q _ (by simp)]; exact a) (b.ret k hg (by simpa [O.nb] using n))
  | .dct ks ds, _, _, h, q, n => by cases h with | dct a e b => exact .dct (by rw [q _ (by simp)]; exact a) e (b.ret k hg (by simpa [O.nb] using n))
  | .ins a0 C ns os, _, _, h, q, n => by
    cases h with
    | ins c a e b => exact .ins c (by rw [q _ (by simp)]; exact a) e (ORs.ret k hg b (fun x hx => q x (List.mem_cons_of_mem _ hx)) (by simpa [O.nb] using n))
theorem ORs.ret (k : ∀ a u, H a = some u → Nk u → H1 a = some u) (hg : ∀ a o u, Lk u → H a = some (.frz o u) → ¬ G' a → H1 a = some (.frz o u) ∧ ¬ G a) : ∀ {os : List O} {vs : List V} {as : List Addr}, ORs K G' H vs os as → (∀ a ∈ as, H1 a = H a) → O.nbs os = true → ORs K G H1 vs os as
  | [], _, _, h, _, _ => by cases h; exact .nil
  | o :: os, _, _, h, q, n => by
    simp [O.nbs] at n
    cases h with
    | cons a b => exact .cons (OR.ret k hg a (fun x hx => q x (List.mem_append_left _ hx)) n.1) (ORs.ret k hg b (fun x hx => q x (List.mem_append_right _ hx)) n.2)
end
end
abbrev LL := List (Addr × HO)
/-- the lists of L locked; given back -/
def lkd (L : LL) (od : Addr → Obj) (H : Hp) : Hp := fun b => match L.lookup b with
  | some u => some (.frz (od b) u)
  | none => H b
def unl (L : LL) (H : Hp) : Hp := fun b => match L.lookup b with
  | some u => some u
  | none => H b
theorem lookup_mem {L : LL} {b : Addr} {xs : HO} (h : L.lookup b = some xs) : (b, xs) ∈ L := by
  induction L with
  | nil => cases h
  | cons p L ih =>
    obtain ⟨a, ys⟩ := p
    rw [List.lookup_cons] at h
    cases e : b == a with
    | true =>
      rw [e] at h
      have e' : b = a := by simpa using e
      cases h; subst e'; exact List.mem_cons_self
    | false => rw [e] at h; exact List.mem_cons_of_mem _ (ih h)
theorem lookup_of {L : LL} {b : Addr} (h : b ∈ L.map (·.1)) : ∃ xs, L.lookup b = some xs := by
  induction L with
  | nil => simp at h
  | cons p L ih =>
    obtain ⟨a, ys⟩ := p
    rw [List.lookup_cons]
    cases e : b == a with
    | true => exact ⟨_, rfl⟩
    | false =>
      simp at h
      rcases h with h | h
      · subst h; simp at e
      · exact ih (by simpa using h)
section
variable {X : Cx} {pins : List (Addr × Obj)} {σ : St} {H : Hp} {s : Shared}
theorem lock_all : ∀ (L : LL), (∀ p ∈ L, H p.1 = some p.2 ∧ Lk p.2) → Inv X pins σ H s → ∃ od, Inv X pins σ (lkd L od H) s
  | [], _, I => ⟨fun _ => default, by
    have e : lkd [] (fun _ => default) H = H := by funext b; rfl
    rw [e]; exact I⟩
  | (a, xs) :: L, h, I => by
    obtain ⟨od, I1⟩ := lock_all L (fun p hp => h p (List.mem_cons_of_mem _ hp)) I
    have ha := h (a, xs) List.mem_cons_self
    cases e : L.lookup a with
    | some ys =>
      refine ⟨od, ?_⟩
      have hy := (h _ (List.mem_cons_of_mem _ (lookup_mem e))).1
      have ha := ha.1
      have q : lkd ((a, xs) :: L) od H = lkd L od H := by
        funext b
        unfold lkd
        rw [List.lookup_cons]
        cases eb : b == a with
        | false => rfl
        | true =>
          have : b = a := by simpa using eb
          subst this
          rw [e]
          have : xs = ys := by
            have := ha.symm.trans hy
            cases this; rfl
          rw [this]
      rw [q]; exact I1
    | none =>
      have h1 : lkd L od H a = some xs := by unfold lkd; rw [e]; exact ha.1
      obtain ⟨o, I2⟩ := I1.lock h1 ha.2.mut
      refine ⟨fun b => if b = a then o else od b, ?_⟩
      have q : lkd ((a, xs) :: L) (fun b => if b = a then o else od b) H = upd (lkd L od H) a (.frz o xs) := by
        funext b
        unfold lkd upd
        rw [List.lookup_cons]
        cases eb : b == a with
        | true =>
          have : b = a := by simpa using eb
          subst this
          simp
        | false =>
          have ne : b ≠ a := by simpa using eb
          simp [ne]
      rw [q]; exact I2
theorem unlock_all (n : ∀ (L : LL) (a : Addr), a ∈ L.map (·.1) → True) : ∀ (L : LL) {H' : Hp} {s' : Shared}, (∀ p ∈ L, ∃ o, H' p.1 = some (.frz o p.2)) → (∀ p ∈ L, ∀ o' u', X.H_0 p.1 ≠ some (.frz o' u')) → Inv X pins σ H' s' → Inv X pins σ (unl L H') s'
  | [], H', s', _, _, I => by
    have e : unl [] H' = H' := by funext b; rfl
    rw [e]; exact I
  | (a, xs) :: L, H', s', h, hn, I => by
    have I1 := unlock_all n L (fun p hp => h p (List.mem_cons_of_mem _ hp)) (fun p hp => hn p (List.mem_cons_of_mem _ hp)) I
    obtain ⟨o, ha⟩ := h (a, xs) List.mem_cons_self
    cases e : L.lookup a with
    | some ys =>
      obtain ⟨o', hy⟩ := h _ (List.mem_cons_of_mem _ (lookup_mem e))
      have q : unl ((a, xs) :: L) H' = unl L H' := by
        funext b
        unfold unl
        rw [List.lookup_cons]
        cases eb : b == a with
        | false => rfl
        | true =>
          have : b = a := by simpa using eb
          subst this
          rw [e]
          have : xs = ys := by
            have := ha.symm.trans hy
            cases this; rfl
          rw [this]
      rw [q]; exact I1
    | none =>
      have h1 : unl L H' a = some (.frz o xs) := by unfold unl; rw [e]; exact ha
      have I2 := I1.unlock h1 (hn (a, xs) List.mem_cons_self)
      have q : unl ((a, xs) :: L) H' = upd (unl L H') a xs := by
        funext b
        unfold unl upd
        rw [List.lookup_cons]
        cases eb : b == a with
        | true =>
          have : b = a := by simpa using eb
          subst this
          simp
        | false =>
          have ne : b ≠ a := by simpa using eb
          simp [ne]
      rw [q]; exact I2
end
/-! ## a def of the text -/
abbrev FS := List D → (RV → Prop) → EZ → Prop
def toSp (K : Frag) (f : FS) : Sp := fun vs H Q E => ∃ (G : Addr → Prop) (ds : List D) (Qz : RV → Prop) (Ez : EZ), (∀ a, G a → ∃ o, H a = some o) ∧ DRs K G H vs ds ∧ f ds Qz Ez ∧
  (∀ v H' r, RS K G H H' v r → Qz r → Q v H') ∧ ∀ cls d H' c ns es, Same H H' → XR K G H' cls d c ns es → Ez c ns es → E cls d H'
/-- the lists among the arguments that are owned -/
theorem lend_args {K : Frag} {G : Addr → Prop} {B : Hp} {σ : St} {H : Hp} {ss : SS} (S : Sm K G B [] σ H ss) : ∀ {rs : List RV} {vs : List V} {ds : List D}, AR K G σ H vs rs → cvs ss rs = some ds →
    ∃ L : LL, (∀ p ∈ L, (H p.1 = some p.2 ∧ Lk p.2) ∧ B p.1 = none) ∧ (∀ (G' : Addr → Prop) (H1 : Hp), Kp H H1 → (∀ a o u, H a = some (.frz o u) → (G' a ↔ G a)) → (∀ p ∈ L, (∃ o, H1 p.1 = some (.frz o p.2)) ∧ G' p.1) → DRs K G' H1 vs ds)
  | [], [], ds, _, e => by simp [cvs] at e; subst e; exact ⟨[], fun p hp => (by simp at hp), fun _ _ _ _ _ => .nil⟩
  | [], _ :: _, _, h, _ => h.elim
  | .new o :: rs, v :: vs, ds, h, e => h.elim
  | .d x :: rs, [], ds, h, e => h.elim
  | .loc x :: rs, [], ds, h, e => h.elim
  | .new x :: rs, [], ds, h, e => h.elim
  | .d x :: rs, v :: vs, ds, h, e => by
    cases e2 : cvs ss rs with
    | none => simp [cvs, e2, cv] at e
    | some ys =>
      simp [cvs, e2, cv] at e; subst e
      obtain ⟨L, h1, h2⟩ := lend_args S h.2 e2
      exact ⟨L, h1, fun G' H1 k hg hl => .cons (h.1.go k hg) (h2 G' H1 k hg hl)⟩
  | .loc i :: rs, v :: vs, ds, h, e => by
    cases e1 : cv ss (.loc i) with
    | none => simp [cvs, e1] at e
    | some y =>
      cases e2 : cvs ss rs with
      | none => simp [cvs, e1, e2] at e
      | some ys =>
        simp [cvs, e1, e2] at e; subst e
        obtain ⟨L, h1, h2⟩ := lend_args S h.2 e2
        unfold cv at e1
        cases hi : ss[i]? with
        | none => simp only [hi] at e1; cases e1
        | some oo =>
          cases oo with
          | none => simp only [hi] at e1; cases e1
          | some o =>
            cases o with
            | pure d =>
              simp only [hi] at e1; cases e1
              obtain ⟨w, hw, r⟩ := S.pure hi
              rw [h.1] at hw; cases hw
              exact ⟨L, h1, fun G' H1 k hg hl => .cons (r.go k hg) (h2 G' H1 k hg hl)⟩
            | ins a0 C ns os => simp only [hi] at e1; cases e1
            | dct ks es =>
              simp only [hi] at e1; cases e1
              obtain ⟨A, W⟩ := S.own
              obtain ⟨w, hw, ro⟩ := W.at_ i _ hi
              rw [h.1] at hw
              generalize hA : A i = as at ro
              cases ro with
              | @dct a kvs _ _ ha hk r =>
                cases hw
                refine ⟨(a, .dK kvs) :: L, fun p hp => ?_, fun G' H1 k hg hl => ?_⟩
                · rcases List.mem_cons.mp hp with rfl | hp
                  · exact ⟨⟨ha, trivial⟩, (W.fr i a (by rw [hA]; simp)).1⟩
                  · exact h1 p hp
                · obtain ⟨⟨o, q1⟩, q2⟩ := hl (a, .dK kvs) List.mem_cons_self
                  exact .cons (.dct1 q1 q2 hk (r.go k hg)) (h2 G' H1 k hg fun p hp => hl p (List.mem_cons_of_mem _ hp))
            | lst es =>
              simp only [hi] at e1; cases e1
              obtain ⟨A, W⟩ := S.own
              obtain ⟨w, hw, ro⟩ := W.at_ i _ hi
              rw [h.1] at hw
              generalize hA : A i = as at ro
              cases ro with
              | @lst a xs _ ha r =>
                cases hw
                refine ⟨(a, .lst xs) :: L, fun p hp => ?_, fun G' H1 k hg hl => ?_⟩
                · rcases List.mem_cons.mp hp with rfl | hp
                  · exact ⟨⟨ha, trivial⟩, (W.fr i a (by rw [hA]; simp)).1⟩
                  · exact h1 p hp
                · obtain ⟨⟨o, q1⟩, q2⟩ := hl (a, .lst xs) List.mem_cons_self
                  exact .cons (.lst1 q1 q2 (r.go k hg)) (h2 G' H1 k hg fun p hp => hl p (List.mem_cons_of_mem _ hp))
def RV.nb : RV → Bool
  | .d x => x.nb
  | .new o => o.nb
  | .loc _ => true
def hasLoc : List RV → Bool
  | [] => false
  | .loc _ :: _ => true
  | _ :: rs => hasLoc rs
theorem noLoc {K : Frag} {G : Addr → Prop} {σ : St} {H : Hp} {ss : SS} : ∀ {rs : List RV} {vs : List V} {ds : List D}, AR K G σ H vs rs → cvs ss rs = some ds → hasLoc rs = false → DRs K G H vs ds
  | [], [], ds, _, e, _ => by simp [cvs] at e; subst e; exact .nil
  | [], _ :: _, _, h, _, _ => h.elim
  | .new o :: rs, v :: vs, ds, h, e, _ => h.elim
  | .d x :: rs, [], ds, h, e, _ => h.elim
  | .loc x :: rs, [], ds, h, e, _ => h.elim
  | .new x :: rs, [], ds, h, e, _ => h.elim
  | .loc x :: rs, v :: vs, ds, h, e, n => by simp [hasLoc] at n
  | .d x :: rs, v :: vs, ds, h, e, n => by
    cases e2 : cvs ss rs with
    | none => simp [cvs, e2, cv] at e
    | some ys =>
      simp [cvs, e2, cv] at e; subst e
      exact .cons h.1 (noLoc h.2 e2 (by simpa [hasLoc] using n))
/-- f(..): the lists that are owned are lent -/
def zCall (f : FS) (Wz : WZ) (ts : ZTA) : ZT := fun ss Q => ts ss fun rs s => match cvs s rs with
  | some ds => match hasLoc rs with
    | false => f ds (fun r => Q r s) fun cls ns es => Wz cls ns es s
    | true => f ds (fun r => Sd (r.nb = true) ∧ Q r s) fun cls ns es => Sd (D.nbs es = true) ∧ Wz cls ns es s
  | none => False
def tCallL (sp : Sp) (W : WX) (t : TA) : TE := fun σ H Q => t σ H fun vs H1 => ∃ L : LL, (∀ p ∈ L, H1 p.1 = some p.2 ∧ Lk p.2) ∧ ∀ od, sp vs (lkd L od H1) (fun v H' => Same (lkd L od H1) H' ∧ Q v (unl L H')) fun cls d H' => Same (lkd L od H1) H' ∧ W cls d σ (unl L H')
section
variable {X : Cx} {CX : CXT} {k : Nat} {f C : Addr} {fd : FuncData} {ps : List Str} {sp : Sp} {x m : Str} {p pos apos : Pos} {e o : Expr} {es : List Expr} {ta : TE} {t : TA} {W : WX}
theorem lkd_frz {L : LL} {od : Addr → Obj} {H H' : Hp} (sm : Same (lkd L od H) H') {p : Addr × HO} (hp : p ∈ L) (h : ∀ p ∈ L, H p.1 = some p.2 ∧ Lk p.2) : ∃ o, H' p.1 = some (.frz o p.2) := by
  obtain ⟨xs, e⟩ := lookup_of (L := L) (b := p.1) (List.mem_map_of_mem hp)
  have e1 := (h _ (lookup_mem e)).1
  have e2 := (h p hp).1
  have e3 : xs = p.2 := by have := e1.symm.trans e2; cases this; rfl
  subst e3
  exact ⟨od p.1, sm _ _ (by unfold lkd; rw [e])⟩
/-- the callee runs while the lists of L are locked -/
theorem run_lent {pins : List (Addr × Obj)} {σ : St} {H : Hp} {s : Shared} {Q : VK} {us : List Value} {vs : List V} (F : FnOk X.prog X.w X.K X.mg X.base (L2.CX X.prog X.w) k f fd ps sp) (hr : Room k X.A) (hb : Binds X.K fd ps []) (tk : Takes X W)
    (I : Inv X pins σ H s) (r : Vals vs us) (h : ∃ L : LL, (∀ p ∈ L, H p.1 = some p.2 ∧ Lk p.2) ∧ ∀ od, sp vs (lkd L od H) (fun v H' => Same (lkd L od H) H' ∧ Q v (unl L H')) fun cls d H' => Same (lkd L od H) H' ∧ W cls d σ (unl L H')) :
    wpAny (model X.prog X.w) X.A (call (.ref f) us) (EP X pins σ Q) X.xe s := by
  obtain ⟨L, hL, h⟩ := h
  obtain ⟨od, I2⟩ := lock_all L hL I
  have nf : ∀ p ∈ L, ∀ o' u', X.H_0 p.1 ≠ some (.frz o' u') := fun p hp => I.nofrz (hL p hp).1 (hL p hp).2.mut
  refine thn (run_fnS (E := fun _ => fun cls d H' => Same (lkd L od H) H' ∧ W cls d σ (unl L H')) (σ := σ) F hr hb (fun pins2 H2 s2 e s' J c => ?_) I2 r (h od)) fun u s' ⟨v, H', I', rv, sm, q⟩ => ?_
  · obtain ⟨a, B, sI, pins', σ', H', cls, d, e1, I3, nb, up, sky, na, os, ag, w⟩ := XE.of_call (W := fun cls d σ' H' => σ' = σ ∧ Same (lkd L od H) H' ∧ W cls d σ (unl L H')) J (fun cls d H' hh => ⟨rfl, hh.1, hh.2⟩) c
    obtain ⟨rfl, sm, w⟩ := w
    refine tk _ _ ⟨a, B, sI, pins', σ', unl L H', cls, d, e1, unlock_all (fun _ _ _ => trivial) L (fun p hp => lkd_frz sm hp hL) nf I3, nb, up, sky, ?_, os, ag, w⟩
    unfold unl
    cases e2 : L.lookup a with
    | none => exact na
    | some xs =>
      obtain ⟨o, q⟩ := lkd_frz sm (lookup_mem e2) hL
      rw [na] at q; cases q
  · exact ⟨v, _, unlock_all (fun _ _ _ => trivial) L (fun p hp => lkd_frz sm hp hL) nf I', rv, q⟩
theorem pe_callL (F : FnOk X.prog X.w X.K X.mg X.base (L2.CX X.prog X.w) k f fd ps sp) (hr : Room k X.A) (hg : Gl X x) (hm : X.mg x = some (.ref f)) (hk : PySem.W.keepIn X.K (.ref f) = true) (hb : Binds X.K fd ps []) (tk : Takes X W)
    (ha : PA X (e :: es) t) (hdb : (x == ("__debug__" : Str)) = false := by decide) (he : starEach (e :: es) X.env = (false, eval e X.env) :: starEach es X.env := by rfl) (hpl : (backTo pos (starEach es X.env)).any (·.1) = false := by rfl) :
    PE X (.Call (.Name x p) (e :: es) [] pos) (tCallL sp W t) := by
  refine ⟨fun pins s σ H Q I h => ?_⟩
  refine wpAny_Call_Name_kw (ld_glob I hg hm ?_ hdb)
  refine PySem.W.callWith_K (h₀ := X.base) I.ok.mod.kin hk (thn (ha.run pos pins s σ H _ I h) fun us s1 ⟨vs, H1, I1, r, q⟩ => ⟨I1.kIn, ?_⟩) he hpl
  exact run_lent F hr hb tk I1 r q
theorem pe_callL0 (F : FnOk X.prog X.w X.K X.mg X.base (L2.CX X.prog X.w) k f fd ps sp) (hr : Room k X.A) (hg : Gl X x) (hm : X.mg x = some (.ref f)) (hk : PySem.W.keepIn X.K (.ref f) = true) (hb : Binds X.K fd ps []) (tk : Takes X W)
    (hdb : (x == ("__debug__" : Str)) = false := by decide) : PE X (.Call (.Name x p) [] [] pos) (tCallL sp W tNil) := by
  refine ⟨fun pins s σ H Q I h => ?_⟩
  refine wpAny_Call_Name_kw (ld_glob I hg hm ?_ hdb)
  exact PySem.W.callWith_K0 I.kIn hk (run_lent (us := []) F hr hb tk I .nil h)
end
section
variable {X : Cx} {G : Addr → Prop} {B : Hp} {Wz : WZ} {k j : Nat} {e a b c : Expr} {es : List Expr} {ts : ZTA} {pos : Pos}
def zCallQ (fs : FS) (Wz : WZ) (rs : List RV) (s : SS) (Q : RV → SS → Prop) : Prop := match cvs s rs with
  | some ds => match hasLoc rs with
    | false => fs ds (fun r => Q r s) fun cls ns es => Wz cls ns es s
    | true => fs ds (fun r => Sd (r.nb = true) ∧ Q r s) fun cls ns es => Sd (D.nbs es = true) ∧ Wz cls ns es s
  | none => False
/-- what a promise kept in the locked state says in the state itself -/
theorem call_at {fs : FS} {W : WX} (hW : ∀ σ H ss cls d c ns ds, Sm X.K G B [] σ H ss → XR X.K G H cls d c ns ds → Wz c ns ds ss → W cls d σ H) {σ : St} {H1 : Hp} {s1 : SS} {vs : List V} {rs : List RV} {Q : RV → SS → Prop} {R : VK}
    (S1 : Sm X.K G B [] σ H1 s1) (ar : AR X.K G σ H1 vs rs) (q : zCallQ fs Wz rs s1 Q) (fin : ∀ v H' r, Kp H1 H' → RR X.K G B σ H' s1 v r → Q r s1 → R v H') :
    ∃ L : LL, (∀ p ∈ L, H1 p.1 = some p.2 ∧ Lk p.2) ∧ ∀ od, toSp X.K fs vs (lkd L od H1) (fun v H' => Same (lkd L od H1) H' ∧ R v (unl L H')) fun cls d H' => Same (lkd L od H1) H' ∧ W cls d σ (unl L H') := by
  cases ec : cvs s1 rs with
  | none => simp only [zCallQ, ec] at q
  | some ds =>
    simp only [zCallQ, ec] at q
    cases eh : hasLoc rs with
    | false =>
      simp only [eh] at q
      have rr := noLoc ar ec eh
      refine ⟨[], fun p hp => (by simp at hp), fun od => ?_⟩
      have e1 : lkd [] od H1 = H1 := by funext b; rfl
      have e2 : ∀ H', unl [] H' = H' := fun H' => by funext b; rfl
      rw [e1]
      refine ⟨G, ds, _, _, fun a ga => ?_, rr, q, fun v H' r rs' qq => ⟨rs'.same, ?_⟩, fun cls d H' c ns es sm xr w => ⟨sm, ?_⟩⟩
      · obtain ⟨o, h⟩ := S1.gb a ga; exact ⟨o, S1.keep _ _ h⟩
      · rw [e2]; exact fin v H' r (Kp.of rs'.same) (rs'.rr S1) qq
      · rw [e2]; exact hW σ H' s1 cls d c ns es (S1.same sm) xr w
    | true =>
      simp only [eh] at q
      obtain ⟨L, hL, hD⟩ := lend_args S1 ar ec
      have hL1 : ∀ p ∈ L, H1 p.1 = some p.2 ∧ Lk p.2 := fun p hp => (hL p hp).1
      refine ⟨L, hL1, fun od => ?_⟩
      have kp0 : ∀ a u, H1 a = some u → ¬ Lk u → lkd L od H1 a = some u := fun a u h n => by
        unfold lkd
        cases e : L.lookup a with
        | none => exact h
        | some xs =>
          have q := hL1 _ (lookup_mem e)
          rw [h] at q; obtain ⟨q, l⟩ := q; cases q; exact absurd l n
      have kp : Kp H1 (lkd L od H1) := ⟨fun a o u h => kp0 a _ h fun z => z, fun a xs h => kp0 a _ h fun z => z, fun a xs h => kp0 a _ h fun z => z⟩
      let G' : Addr → Prop := fun a => G a ∨ a ∈ L.map (·.1)
      have hg : ∀ a o u, H1 a = some (.frz o u) → (G' a ↔ G a) := fun a o u h => by
        constructor
        · rintro (g | g)
          · exact g
          · obtain ⟨xs, e⟩ := lookup_of g
            obtain ⟨q, l⟩ := hL1 _ (lookup_mem e)
            rw [h] at q; cases q; exact l.elim
        · exact .inl
      have frz0 : ∀ p ∈ L, ∃ o, lkd L od H1 p.1 = some (.frz o p.2) := fun p hp => lkd_frz (Same.refl _) hp hL1
      -- behind the call, the lists given back
      have back : ∀ {H' : Hp}, Same (lkd L od H1) H' → Same H1 (unl L H') := fun {H'} sm b o h => by
        unfold unl
        cases e : L.lookup b with
        | none => exact sm b o (by unfold lkd; rw [e]; exact h)
        | some xs => have q := (hL1 _ (lookup_mem e)).1; rw [h] at q; cases q; rfl
      have kk : ∀ {H' : Hp}, Same (lkd L od H1) H' → ∀ a u, H' a = some u → Nk u → unl L H' a = some u := fun {H'} sm a u h n => by
        unfold unl
        cases e : L.lookup a with
        | none => exact h
        | some xs =>
          obtain ⟨o, q⟩ := lkd_frz sm (lookup_mem e) hL1
          rw [h] at q; cases q; exact absurd (hL1 _ (lookup_mem e)).2 n.nf
      have gg : ∀ {H' : Hp}, Same (lkd L od H1) H' → ∀ a o u, Lk u → H' a = some (.frz o u) → ¬ G' a → unl L H' a = some (.frz o u) ∧ ¬ G a := fun {H'} sm a o xs l h n => by
        refine ⟨?_, fun g => n (.inl g)⟩
        unfold unl
        cases e : L.lookup a with
        | none => exact h
        | some ys => exact absurd (.inr (List.mem_map_of_mem (lookup_mem e))) n
      refine ⟨G', ds, _, _, fun a ga => ?_, hD G' _ kp hg fun p hp => ⟨frz0 p hp, .inr (List.mem_map_of_mem hp)⟩, q, fun v H' r rs' qq => ⟨rs'.same, ?_⟩, fun cls d H' c ns es sm xr w => ⟨sm, ?_⟩⟩
      · rcases ga with ga | ga
        · obtain ⟨o, h⟩ := S1.gb a ga
          have h2 := S1.keep _ _ h
          cases e : L.lookup a with
          | none => exact ⟨o, by unfold lkd; rw [e]; exact h2⟩
          | some xs => exact ⟨_, by unfold lkd; rw [e]⟩
        · obtain ⟨xs, e⟩ := lookup_of ga
          exact ⟨_, by unfold lkd; rw [e]⟩
      · have rs1 : RS X.K G H1 (unl L H') v r := by
          cases r with
          | loc i => exact rs'.elim
          | d x => exact ⟨back rs'.1, rs'.2.ret (kk rs'.1) (gg rs'.1) qq.1.h⟩
          | new o =>
            obtain ⟨as, sm, ro, nd, fr⟩ := rs'
            have off : ∀ a ∈ as, L.lookup a = none := fun a ha => by
              cases e : L.lookup a with
              | none => rfl
              | some xs => have := fr a ha; unfold lkd at this; rw [e] at this; cases this
            refine ⟨as, back sm, ro.ret (kk sm) (gg sm) (fun a ha => by unfold unl; rw [off a ha]) qq.1.h, nd, fun a ha => ?_⟩
            have := fr a ha
            unfold lkd at this; rw [off a ha] at this; exact this
        exact fin v _ r (Kp.of rs1.same) (rs1.rr S1) qq.2
      · refine hW σ _ s1 cls d c ns es (S1.same (back sm)) ?_ w.2
        obtain ⟨hc, fvs, h1, h2, h3⟩ := xr
        exact ⟨hc, fvs, h1.imp (fun q => q) fun ⟨p, q1, q2⟩ => ⟨p, q1, kk sm _ _ q2 trivial⟩, h2, h3.ret (kk sm) (gg sm) w.1.h⟩
theorem call_zr {fs : FS} {W : WX} {te : TA} (hz : ZrA X.K G B te ts)
    (hW : ∀ σ H ss cls d c ns ds, Sm X.K G B [] σ H ss → XR X.K G H cls d c ns ds → Wz c ns ds ss → W cls d σ H) : Zr X.K G B (tCallL (toSp X.K fs) W te) (zCall fs Wz ts) := by
  intro σ H ss Q R S hw fin
  refine hz σ H ss _ _ S hw fun vs H1 rs s1 k1 S1 ar q => ?_
  exact call_at hW S1 ar q fun v H' r k2 rr qq => fin v H' r s1 (k1.trans k2) rr qq
theorem z_call {f : Addr} {fd : FuncData} {ps : List Str} {fs : FS} {x : Str} {p : Pos} (C : Ctx X G B Wz k) (F : FnOk X.prog X.w X.K X.mg X.base (L2.CX X.prog X.w) j f fd ps (toSp X.K fs)) (hj : j ≤ k) (hm : X.mg x = some (.ref f)) (hk : PySem.W.keepIn X.K (.ref f) = true) (hb : Binds X.K fd ps [])
    (ha : ZA X G B (e :: es) ts) (hg : Gl X x := by rfl) (hdb : (x == ("__debug__" : Str)) = false := by decide) (he : starEach (e :: es) X.env = (false, eval e X.env) :: starEach es X.env := by rfl) (hpl : (backTo pos (starEach es X.env)).any (·.1) = false := by rfl) :
    ZE X G B (.Call (.Name x p) (e :: es) [] pos) (zCall fs Wz ts) := by
  obtain ⟨W, tk, hW⟩ := C.wish
  obtain ⟨te, pa, za⟩ := ha
  exact ⟨_, pe_callL F (C.room.mono hj) hg hm hk hb tk pa hdb he hpl, call_zr za hW⟩
theorem z_call0 {f : Addr} {fd : FuncData} {ps : List Str} {fs : FS} {x : Str} {p : Pos} (C : Ctx X G B Wz k) (F : FnOk X.prog X.w X.K X.mg X.base (L2.CX X.prog X.w) j f fd ps (toSp X.K fs)) (hj : j ≤ k) (hm : X.mg x = some (.ref f)) (hk : PySem.W.keepIn X.K (.ref f) = true) (hb : Binds X.K fd ps [])
    (hg : Gl X x := by rfl) (hdb : (x == ("__debug__" : Str)) = false := by decide) : ZE X G B (.Call (.Name x p) [] [] pos) (zCall fs Wz zaNil) := by
  obtain ⟨W, tk, hW⟩ := C.wish
  obtain ⟨te, pa, za⟩ := (za_nil : ZA X G B [] zaNil)
  refine ⟨_, pe_callL0 F (C.room.mono hj) hg hm hk hb tk hdb, call_zr (te := tNil) (ts := zaNil) (fun σ H ss Q R S hw fin => fin [] H [] ss (Kp.refl H) S trivial hw) hW⟩
end

/-! ## statements -/
structure ZEnds where
  nx : SS → Prop
  rt : RV → SS → Prop
  bk : SS → Prop := fun _ => False
  ct : SS → Prop := fun _ => False
structure EOk (K : Frag) (G : Addr → Prop) (B : Hp) (H : Hp) (D : ZEnds) (D' : Ends) : Prop where
  nx : ∀ σ' H' ss', Kp H H' → Sm K G B [] σ' H' ss' → D.nx ss' → D'.nx σ' H'
  rt : ∀ σ' v H' r ss', Kp H H' → RR K G B σ' H' ss' v r → D.rt r ss' → D'.rt v H'
  bk : ∀ σ' H' ss', Kp H H' → Sm K G B [] σ' H' ss' → D.bk ss' → D'.bk σ' H'
  ct : ∀ σ' H' ss', Kp H H' → Sm K G B [] σ' H' ss' → D.ct ss' → D'.ct σ' H'
abbrev ZTS := ZEnds → SS → Prop
def ZSr (K : Frag) (G : Addr → Prop) (B : Hp) (ts : TS) (zs : ZTS) : Prop := ∀ (σ : St) (H : Hp) (ss : SS) (D : ZEnds) (D' : Ends), Sm K G B [] σ H ss → zs D ss → EOk K G B H D D' → ts D' σ H
def ZS (X : Cx) (G : Addr → Prop) (B : Hp) (st : Stmt) (zs : ZTS) : Prop := ∃ ts, PS X st ts ∧ ZSr X.K G B ts zs
def ZSs (X : Cx) (G : Addr → Prop) (B : Hp) (st : List Stmt) (zs : ZTS) : Prop := ∃ ts, PSs X st ts ∧ ZSr X.K G B ts zs
theorem EOk.mono {K : Frag} {G : Addr → Prop} {B H H1 : Hp} {D : ZEnds} {D' : Ends} (h : EOk K G B H D D') (k : Kp H H1) : EOk K G B H1 D D' :=
  ⟨fun σ H' ss k' => h.nx σ H' ss (k.trans k'), fun σ v H' r ss k' => h.rt σ v H' r ss (k.trans k'), fun σ H' ss k' => h.bk σ H' ss (k.trans k'), fun σ H' ss k' => h.ct σ H' ss (k.trans k')⟩
section
variable {X : Cx} {G : Addr → Prop} {B : Hp} {Wz : WZ} {k : Nat} {e a b c : Expr} {t : ZT} {tb : ZTB} {pos : Pos} {st : Stmt} {rest body els : List Stmt} {z u v : ZTS}
def zNext : ZTS := fun D ss => D.nx ss
def zSeq (z u : ZTS) : ZTS := fun D ss => match D with
  | ⟨nx, rt, bk, ct⟩ => z ⟨u ⟨nx, rt, bk, ct⟩, rt, bk, ct⟩ ss
theorem zs_nil : ZSs X G B [] zNext := ⟨_, pss_nil, fun σ H ss D D' S hw ok => ok.nx σ H ss (Kp.refl H) S hw⟩
theorem zs_cons (h1 : ZS X G B st z) (h2 : ZSs X G B rest u) : ZSs X G B (st :: rest) (zSeq z u) := by
  obtain ⟨te, p, r⟩ := h1
  obtain ⟨te2, p2, r2⟩ := h2
  refine ⟨_, pss_cons p p2, fun σ H ss D D' S hw ok => r σ H ss _ _ S hw ⟨fun σ' H' ss' k S' q => ?_, ok.rt, ok.bk, ok.ct⟩⟩
  exact r2 σ' H' ss' D D' S' q (ok.mono k)
theorem zs_one (h1 : ZS X G B st z) : ZSs X G B [st] z := by obtain ⟨te, p, r⟩ := h1; exact ⟨_, pss_one p, r⟩
theorem s_pass : ZS X G B (.Pass pos) zNext := ⟨_, ps_pass, fun σ H ss D D' S hw ok => ok.nx σ H ss (Kp.refl H) S hw⟩
theorem s_break : ZS X G B (.Break pos) (fun D ss => D.bk ss) := ⟨_, ps_break, fun σ H ss D D' S hw ok => ok.bk σ H ss (Kp.refl H) S hw⟩
theorem s_cont : ZS X G B (.Continue pos) (fun D ss => D.ct ss) := ⟨_, ps_continue, fun σ H ss D D' S hw ok => ok.ct σ H ss (Kp.refl H) S hw⟩
def zDrop (t : ZT) : ZTS := fun D ss => t ss fun _ s => D.nx s
theorem s_expr (h : ZE X G B e t) (hs : swapsWith e none pos.line X.env = pure false := by rfl) : ZS X G B (.Expr e pos) (zDrop t) := by
  obtain ⟨te, p, r⟩ := h
  exact ⟨_, ps_expr p hs, fun σ H ss D D' S hw ok => r σ H ss _ _ S hw fun v H' r ss' k rr q => ok.nx σ H' ss' k rr.sem q⟩
theorem s_doc {x j pos pos'} : ZS X G B (.Expr (.Constant (.str x) j pos) pos') zNext := ⟨_, ps_doc, fun σ H ss D D' S hw ok => ok.nx σ H ss (Kp.refl H) S hw⟩
def zRet (t : ZT) : ZTS := fun D ss => t ss D.rt
theorem s_ret (h : ZE X G B e t) : ZS X G B (.Return (some e) pos) (zRet t) := by
  obtain ⟨te, p, r⟩ := h
  exact ⟨_, ps_ret p, fun σ H ss D D' S hw ok => r σ H ss _ _ S hw fun v H' r ss' k rr q => ok.rt σ v H' r ss' k rr q⟩
theorem s_retN : ZS X G B (.Return none pos) (fun D ss => D.rt (.d .non) ss) := ⟨_, ps_retN, fun σ H ss D D' S hw ok => ok.rt σ .non H _ ss (Kp.refl H) (.d' S .non) hw⟩
def zIfS (t : ZTB) (z u : ZTS) : ZTS := fun D ss => t ss fun b s => Br b (z D s) (u D s)
theorem s_if (h : ZB X G B c tb) (h1 : ZSs X G B body z) (h2 : ZSs X G B els u) : ZS X G B (.If c body els pos) (zIfS tb z u) := by
  obtain ⟨te, p, r⟩ := h
  obtain ⟨te1, p1, r1⟩ := h1
  obtain ⟨te2, p2, r2⟩ := h2
  refine ⟨_, ps_if p p1 p2, fun σ H ss D D' S hw ok => r σ H ss _ _ S hw fun b H' ss' k S' q => ?_⟩
  cases b with
  | true => rw [if_pos rfl]; exact r1 σ H' ss' D D' S' (q.t rfl) (ok.mono k)
  | false => rw [if_neg Bool.false_ne_true]; exact r2 σ H' ss' D D' S' (q.f rfl) (ok.mono k)
/-- code that is never come to -/
theorem s_never : ZS X G B st (fun _ _ => False) := ⟨_, ps_never, fun _ _ _ _ _ _ h _ => h.elim⟩
/-! ## targets -/
abbrev ZG1 := D → SS → (SS → Prop) → Prop
abbrev ZG2 := List D → SS → (SS → Prop) → Prop
def ZGr (K : Frag) (G : Addr → Prop) (B : Hp) (tg : TG) (g : ZG1) : Prop := ∀ (σ : St) (H : Hp) (ss : SS) (v : V) (d : D) (Q : SS → Prop) (R : St → Hp → Prop), Sm K G B [] σ H ss → DR K G H v d → g d ss Q →
  (∀ σ' H' ss', Kp H H' → Sm K G B [] σ' H' ss' → Q ss' → R σ' H') → tg v σ H R
def ZG (X : Cx) (G : Addr → Prop) (B : Hp) (e : Expr) (g : ZG1) : Prop := ∃ tg, PG X e tg ∧ ZGr X.K G B tg g
def ZGs (X : Cx) (G : Addr → Prop) (B : Hp) (es : List Expr) (g : ZG2) : Prop := ∃ tg : TGs, PGs X es tg ∧ ∀ (σ : St) (H : Hp) (ss : SS) (vs : List V) (ds : List D) (Q : SS → Prop) (R : St → Hp → Prop), Sm X.K G B [] σ H ss → DRs X.K G H vs ds → g ds ss Q →
  (∀ σ' H' ss', Kp H H' → Sm X.K G B [] σ' H' ss' → Q ss' → R σ' H') → tg vs σ H R
theorem Sm.setD' {K : Frag} {σ : St} {H : Hp} {ss : SS} {i : Nat} {v : V} {d : D} (S : Sm K G B [] σ H ss) (r : DR K G H v d) : Sm K G B [] (σ.set i (some v)) H (ss.set i (some (.pure d))) := by
  by_cases h : i < ss.length
  · exact S.setD r h
  · have e1 : ss.set i (some (.pure d)) = ss := List.set_eq_of_length_le (by omega)
    have e2 : σ.set i (some v) = σ := List.set_eq_of_length_le (by have := S.len; omega)
    rw [e1, e2]; exact S
theorem Sm.set' {K : Frag} {σ : St} {H : Hp} {ss : SS} {i : Nat} {v : V} {o : O} {as : List Addr} (S : Sm K G B as σ H ss) (r : OR K G H v o as) (nd : as.Nodup) : Sm K G B [] (σ.set i (some v)) H (ss.set i (some o)) := by
  by_cases h : i < ss.length
  · exact S.set r nd h
  · have e1 : ss.set i (some o) = ss := List.set_eq_of_length_le (by omega)
    have e2 : σ.set i (some v) = σ := List.set_eq_of_length_le (by have := S.len; omega)
    rw [e1, e2]; exact S.weak
/-- the state, worked out -/
def fc : SS → (SS → Prop) → Prop
  | [], K => K []
  | x :: xs, K => fc xs fun ys => K (x :: ys)
theorem fc_iff : ∀ (s : SS) (K : SS → Prop), fc s K ↔ K s
  | [], _ => Iff.rfl
  | x :: xs, K => fc_iff xs fun ys => K (x :: ys)
def gN (i : Nat) : ZG1 := fun d ss Q => fc (ss.set i (some (.pure d))) Q
theorem g_name {i : Nat} {x : Str} (hN : X.N.Nodup) (hi : X.N[i]? = some x := by rfl) (hx : Loc X.env.scope x := by first | exact Or.inl rfl | exact Or.inr rfl) (hf : X.fn x = true ∨ X.env.scope.names.lookup x = some .local := by first | exact .inl rfl | exact .inr rfl) : ZG X G B (.Name x pos) (gN i) := by
  refine ⟨_, pg_name hN hi hx hf, fun σ H ss v d Q R S r hw fin => ?_⟩
  exact fin _ H _ (Kp.refl H) (S.setD' r) ((fc_iff _ _).mp hw)
def gsNil : ZG2 := fun ds ss Q => match ds with
  | [] => Q ss
  | _ => False
def gsCons (g : ZG1) (gs : ZG2) : ZG2 := fun ds ss Q => match ds with
  | d :: ds => g d ss fun s => gs ds s Q
  | _ => False
theorem gs_nil : ZGs X G B [] gsNil := by
  refine ⟨_, pgs_nil, fun σ H ss vs ds Q R S r hw fin => ?_⟩
  cases r with
  | nil => exact ⟨rfl, fin σ H ss (Kp.refl H) S hw⟩
  | cons _ _ => exact hw.elim
theorem gs_cons {es : List Expr} {g : ZG1} {gs : ZG2} (h1 : ZG X G B e g) (h2 : ZGs X G B es gs) (hs : (assignEach (e :: es) X.env).map (·.2) = assign e X.env :: (assignEach es X.env).map (·.2) := by rfl) : ZGs X G B (e :: es) (gsCons g gs) := by
  obtain ⟨te, p, r1⟩ := h1
  obtain ⟨te2, p2, r2⟩ := h2
  refine ⟨_, pgs_cons p p2 hs, fun σ H ss vs ds Q R S r hw fin => ?_⟩
  cases r with
  | nil => exact hw.elim
  | cons ra rb =>
    refine ⟨_, _, rfl, r1 σ H ss _ _ _ _ S ra hw fun σ' H' ss' k S' q => ?_⟩
    exact r2 σ' H' ss' _ _ _ _ S' (rb.kp k) q fun σ2 H2 s2 k2 S2 q2 => fin σ2 H2 s2 (k.trans k2) S2 q2
def gT (n : Nat) (gs : ZG2) : ZG1 := fun d ss Q => match d with
  | .tup ds => Sd (ds.length = n) ∧ gs ds ss Q
  | _ => False
theorem g_tup {es : List Expr} {kk : Nat} {gs : ZG2} {n : Nat} (hc : X.calm = true) (h : ZGs X G B es gs) (hn : (assignEach es X.env).length = n := by rfl) (hst : (assignEach es X.env).findIdx? (·.1) = none := by rfl) : ZG X G B (.Tuple es kk pos) (gT n gs) := by
  obtain ⟨tg, p, r⟩ := h
  refine ⟨_, pg_tup hc p hn hst, fun σ H ss v d Q R S rd hw fin => ?_⟩
  cases d with
  | tup ds =>
    cases rd with
    | tup h1 h2 => exact ⟨_, _, rfl, h1, by rw [h2.length]; exact hw.1.h, r σ H ss _ ds Q R S h2 hw.2 fin⟩
  | _ => exact hw.elim
/-- a list of a name, written at a place -/
def gSubL (to ti : ZT) : ZG1 := fun d ss Q => to ss fun ro s1 => ti s1 fun ri s2 => match ro, ri with
  | .loc i, .d (.int k) => match s2[i]? with
    | some (some (.lst xs)) => ∃ j, Sd (ixN xs.length k = some j) ∧ Q (s2.set i (some (.lst (xs.set j d))))
    | _ => False
  | _, _ => False
theorem g_subL {o i : Expr} {to ti : ZT} (ho : ZE X G B o to) (hi : ZE X G B i ti)
    (ha : ∀ v, assign (.Subscript o i pos) X.env v = (do
      let ov ← holding [v] (eval o X.env)
      let iv ← holding [v, ov] (eval i X.env)
      standAt pos
      holding [v, ov, iv] (setItem ov iv v)
      release [v, ov, iv] []) := by intro _; rfl) : ZG X G B (.Subscript o i pos) (gSubL to ti) := by
  obtain ⟨te, p, r⟩ := ho
  obtain ⟨te2, p2, r2⟩ := hi
  refine ⟨_, pg_sub p p2 set_list ha, fun σ H ss v d Q R S rd hw fin => ?_⟩
  refine r σ H ss _ _ S hw fun ov H1 ro s1 k1 rr q => ?_
  refine r2 σ H1 s1 _ _ rr.sem q fun iv H2 ri s2 k2 rr2 q2 => ?_
  cases ro with
  | loc n =>
    cases ri with
    | d x =>
      cases x with
      | int kk =>
        obtain ⟨S2, ri⟩ := rr2
        cases ri
        obtain ⟨S1, ev⟩ := rr
        cases es : s2[n]? with
        | none => simp only [es] at q2
        | some oo =>
          cases oo with
          | none => simp only [es] at q2
          | some o =>
            cases o with
            | lst xs =>
              simp only [es] at q2
              obtain ⟨j, hj, q2⟩ := q2
              obtain ⟨a, ws, e1, e2, rs, up⟩ := S2.wr es
              rw [ev] at e1; cases e1
              refine ⟨a, ws, kk, j, rfl, rfl, e2, by rw [rs.length]; exact hj.h, ?_⟩
              have kk2 : Kp H2 (upd H2 a (.lst (ws.set j v))) := Kp.upd e2 trivial
              exact fin σ _ _ ((k1.trans k2).trans kk2) (up _ _ (rs.set ((rd.kp k1).kp k2) j)) q2
            | _ => simp only [es] at q2
      | _ => exact q2.elim
    | _ => exact q2.elim
  | _ => exact q2.elim
/-! assignments -/
/-- only what a name owns is frozen -/
def zL (t : ZT) : ZT := fun ss Q => t ss fun r s => match r with
  | .d x => Q (.d x) s
  | .new o => Q (.new o) s
  | .loc i => match s[i]? with
    | some (some o) => match o.fz with
      | some d => Q (.d d) (s.set i (some (.pure d)))
      | none => False
    | _ => False
theorem z_l (h : ZE X G B e t) : ZE X G B e (zL t) := by
  obtain ⟨te, hp, hz⟩ := h
  refine ⟨_, pe_fz hp, fun σ H ss Q R S hw fin => ?_⟩
  refine hz σ H ss _ _ S hw fun v H' r ss' k rr q => ?_
  cases r with
  | d x => exact .inl (fin v H' _ ss' k rr q)
  | new o => exact .inl (fin v H' _ ss' k rr q)
  | loc i =>
    obtain ⟨S', ev⟩ := rr
    cases es : ss'[i]? with
    | none => simp only [es] at q
    | some oo =>
      cases oo with
      | none => simp only [es] at q
      | some o =>
        cases ef : o.fz with
        | none => simp only [es, ef] at q
        | some d =>
          simp only [es, ef] at q
          obtain ⟨v', as, ev', ro, nd, S2⟩ := S'.take es
          rw [ev] at ev'
          cases ev'
          rcases fz_or S2 ro ef with ⟨S3, r3, _⟩ | ⟨a, u, e1, _, e2, mu, q2⟩
          · refine .inl (fin v H' (.d d) _ k (.d' ?_ r3) q)
            have := S3.put ev (.pure r3) List.nodup_nil
            rw [List.set_set] at this; exact this
          · refine .inr ⟨a, u, e1, e2, mu, fun od => ?_⟩
            obtain ⟨S3, r3, k2⟩ := q2 od
            have S4 := S3.put ev (.pure r3) List.nodup_nil
            rw [List.set_set] at S4
            exact fin v _ (.d d) _ (k.trans k2) (.d' S4 r3) q
def zSet (i : Nat) (t : ZT) : ZTS := fun D ss => zL t ss fun r s => match r with
  | .d x => fc (s.set i (some (.pure x))) D.nx
  | .new o => fc (s.set i (some o)) D.nx
  | .loc _ => False
theorem s_set {i : Nat} {x : Str} {pos' : Pos} (hN : X.N.Nodup) (he : ZE X G B e t) (hi : X.N[i]? = some x := by rfl) (hx : Loc X.env.scope x := by first | exact Or.inl rfl | exact Or.inr rfl)
    (hs : swapsWith e (some (.Name x pos')) pos.line X.env = pure false := by rfl) (hf : X.fn x = true ∨ X.env.scope.names.lookup x = some .local := by first | exact .inl rfl | exact .inr rfl) : ZS X G B (.Assign [.Name x pos'] e pos) (zSet i t) := by
  obtain ⟨te, p, z⟩ := z_l he
  refine ⟨_, ps_set hN hi hx p hs hf, fun σ H ss D D' S hw ok => ?_⟩
  refine z σ H ss _ _ S hw fun v H' r ss' k rr q => ?_
  cases r with
  | loc i => exact q.elim
  | d x => exact ok.nx _ H' _ k (rr.1.setD' rr.2) ((fc_iff _ _).mp q)
  | new o =>
    obtain ⟨as, S', ro, nd⟩ := rr
    exact ok.nx _ H' _ k (S'.set' ro nd) ((fc_iff _ _).mp q)
def zAsg (t : ZT) (g : ZG1) : ZTS := fun D ss => zF t ss fun d s => g d s D.nx
theorem s_asg {tg : Expr} {g : ZG1} (he : ZE X G B e t) (hg : ZG X G B tg g) (hs : swapsWithSole [tg] e pos.line X.env = pure false := by rfl) (hw : swappedStores [tg] e X.env = pure none := by rfl)
    (h1 : (assignEach [tg] X.env).map (·.2) = [assign tg X.env] := by rfl) : ZS X G B (.Assign [tg] e pos) (zAsg t g) := by
  obtain ⟨te, p, z⟩ := z_fz he
  obtain ⟨tg', p2, z2⟩ := hg
  refine ⟨_, ps_asg p p2 hs hw h1, fun σ H ss D D' S hw ok => ?_⟩
  refine z σ H ss _ _ S hw fun v H' d ss' k S' r q => ?_
  exact z2 σ H' ss' v d _ _ S' r q fun σ2 H2 s2 k2 S2 q2 => ok.nx σ2 H2 s2 (k.trans k2) S2 q2
/-! ## while -/
structure zWh (c : ZTB) (z : ZTS) (nx : SS → Prop) (rt : RV → SS → Prop) (ss : SS) : Prop where
  h : ∃ W : Nat → SS → Prop, (∃ m, W m ss) ∧ ∀ m ss, W m ss → c ss fun b s1 => Br b (z ⟨fun s => ∃ m', m' < m ∧ W m' s, rt, nx, fun s => ∃ m', m' < m ∧ W m' s⟩ s1) (nx s1)
def zWhile (c : ZTB) (z : ZTS) : ZTS := fun D ss => match D with
  | ⟨nx, rt, _, _⟩ => zWh c z nx rt ss
theorem s_while (C : Ctx X G B Wz k) (hc : ZB X G B c tb) (hb : ZSs X G B body z) : ZS X G B (.While c body [] pos) (zWhile tb z) := by
  obtain ⟨te, p, r⟩ := hc
  obtain ⟨te2, p2, r2⟩ := hb
  refine ⟨_, ps_while C.pass p p2, fun σ H ss D D' S hw ok => ?_⟩
  obtain ⟨⟨W, ⟨m0, w0⟩, turn⟩⟩ := hw
  refine ⟨fun m σ' H' => ∃ ss', Kp H H' ∧ Sm X.K G B [] σ' H' ss' ∧ W m ss', ⟨m0, ss, Kp.refl H, S, w0⟩, ?_⟩
  rintro m σ1 H1 ⟨s1, k1, S1, w1⟩
  refine r σ1 H1 s1 _ _ S1 (turn m s1 w1) fun b H2 s2 k2 S2 q => ?_
  cases b with
  | true =>
    rw [if_pos rfl]
    refine ⟨fun σ' H' => ∃ ss', Kp H H' ∧ Sm X.K G B [] σ' H' ss' ∧ ∃ m', m' < m ∧ W m' ss', ?_, ?_⟩
    · rintro σ3 H3 ⟨s3, k3, S3, m', hm, w3⟩
      exact ⟨m', hm, s3, k3, S3, w3⟩
    · have ok2 := ok.mono (k1.trans k2)
      refine r2 σ1 H2 s2 _ _ S2 (q.t rfl) ⟨fun σ' H' ss' kk S' q' => ⟨ss', (k1.trans k2).trans kk, S', q'⟩, ok2.rt, ok2.nx, fun σ' H' ss' kk S' q' => ⟨ss', (k1.trans k2).trans kk, S', q'⟩⟩
  | false =>
    rw [if_neg Bool.false_ne_true]
    exact ok.nx σ1 H2 s2 (k1.trans k2) S2 (q.f rfl)
/-- a while by what holds when m more turns are made at most -/
theorem while_W {c : ZTB} {z : ZTS} {nx : SS → Prop} {rt : RV → SS → Prop} {ss : SS} (W : Nat → SS → Prop) (m0 : Nat) (h0 : W m0 ss)
    (hs : ∀ m ss, W m ss → c ss fun b s1 => Br b (z ⟨fun s => ∃ m', m' < m ∧ W m' s, rt, nx, fun s => ∃ m', m' < m ∧ W m' s⟩ s1) (nx s1)) : zWh c z nx rt ss := ⟨W, ⟨m0, h0⟩, hs⟩
/-! ## for -/
/-- the iterator J goes over items, wherever what never changes at H stands -/
structure ItOk (K : Frag) (G : Addr → Prop) (J : It) (items : List D) (H : Hp) : Prop where
  go : ∀ H1, Kp H H1 → ∀ i, i < items.length → J.go i H1 ∧ ∀ x H2, J.yld i H1 x H2 → Same H1 H2 ∧ ∃ d, items[i]? = some d ∧ DR K G H2 x d
  stop : ∀ H1, Kp H H1 → ∀ i, items.length ≤ i → i ≤ items.length → J.stop i H1
abbrev ZTI := SS → (List D → SS → Prop) → Prop
def ZIr (K : Frag) (G : Addr → Prop) (B : Hp) (wi : TI) (zi : ZTI) : Prop := ∀ (σ : St) (H : Hp) (ss : SS) (Q : List D → SS → Prop) (R : It → Hp → Prop), Sm K G B [] σ H ss → zi ss Q →
  (∀ J H' items ss', Kp H H' → Sm K G B [] σ H' ss' → ItOk K G J items H' → Q items ss' → R J H') → wi σ H R
def ZIt (X : Cx) (G : Addr → Prop) (B : Hp) (tg e : Expr) (zi : ZTI) : Prop := ∃ wi, PI X tg e wi ∧ ZIr X.K G B wi zi
/-- one turn after the other -/
def zForL (g : ZG1) (z : ZTS) (nx : SS → Prop) (rt : RV → SS → Prop) : List D → SS → Prop
  | [], ss => nx ss
  | x :: xs, ss => g x ss fun s1 => z ⟨fun s => zForL g z nx rt xs s, rt, nx, fun s => zForL g z nx rt xs s⟩ s1
def zFor (zi : ZTI) (g : ZG1) (z : ZTS) : ZTS := fun D ss => match D with
  | ⟨nx, rt, _, _⟩ => zi ss fun items s => zForL g z nx rt items s
theorem s_for {tg iter : Expr} {zi : ZTI} {g : ZG1} (C : Ctx X G B Wz k) (hi : ZIt X G B tg iter zi) (hg : ZG X G B tg g) (hb : ZSs X G B body z) (hs : ∀ x, foldedSetIterable iter X.env x = pure x := by intro _; rfl) : ZS X G B (.For tg iter body [] pos) (zFor zi g z) := by
  obtain ⟨wi, p, r⟩ := hi
  obtain ⟨tg', p2, r2⟩ := hg
  obtain ⟨tb, p3, r3⟩ := hb
  refine ⟨_, ps_for C.pass C.calm p p2 p3 hs, fun σ H ss D D' S hw ok => ?_⟩
  refine r σ H ss _ _ S hw fun J H0 items s0 k0 S0 it q => ?_
  refine ⟨fun i m σ' H' => m = items.length - i ∧ i ≤ items.length ∧ ∃ ss', Kp H0 H' ∧ Sm X.K G B [] σ' H' ss' ∧ zForL g z D.nx D.rt (items.drop i) ss', ⟨_, rfl, Nat.zero_le _, s0, Kp.refl H0, S0, by simpa using q⟩, ?_⟩
  rintro i m σ1 H1 ⟨rfl, hi, s1, k1, S1, q1⟩
  by_cases hlt : i < items.length
  · obtain ⟨g1, y1⟩ := it.go H1 k1 i hlt
    have ed : items.drop i = items[i] :: items.drop (i + 1) := (List.getElem_cons_drop hlt).symm
    rw [ed] at q1
    refine .inr ⟨g1, fun σ' H' => ∃ ss', Kp H0 H' ∧ Sm X.K G B [] σ' H' ss' ∧ zForL g z D.nx D.rt (items.drop (i + 1)) ss', fun σ' H' ⟨s', k', S', q'⟩ => ⟨items.length - (i + 1), by omega, rfl, hlt, s', k', S', q'⟩, fun x H2 y => ?_⟩
    obtain ⟨sm, d, e1, rd⟩ := y1 x H2 y
    have e2 : d = items[i] := by rw [List.getElem?_eq_getElem hlt] at e1; cases e1; rfl
    subst e2
    refine r2 σ1 H2 s1 x _ _ _ (S1.same sm) rd q1 fun σ3 H3 s3 k3 S3 q3 => ?_
    have kk : Kp H0 H3 := (k1.trans (Kp.of sm)).trans k3
    have ok2 := ok.mono (k0.trans kk)
    exact r3 σ3 H3 s3 _ _ S3 q3 ⟨fun σ' H' ss' k' S' q' => ⟨ss', kk.trans k', S', q'⟩, ok2.rt, ok2.nx, fun σ' H' ss' k' S' q' => ⟨ss', kk.trans k', S', q'⟩⟩
  · have e : i = items.length := by omega
    subst e
    rw [List.drop_length] at q1
    exact .inl ⟨it.stop H1 k1 _ (Nat.le_refl _) (Nat.le_refl _), ok.nx σ1 H1 s1 (k0.trans k1) S1 q1⟩
/-! what is walked -/
/-- a list, a tuple, a text, as the value tells -/
def iSeq (K : Frag) (tl : TE) : TI := fun σ H R => tl σ H fun x H1 => (∃ a, x = .ref a ∧ ((∃ xs, SqL K H1 a xs) ∧ R (Itl K a) H1 ∨ (∃ xs, SqT K H1 a xs) ∧ R (Itt K a) H1)) ∨ ∃ z, x = .str z ∧ R (Its z) H1
theorem pi_seq {tg l : Expr} {tl : TE} (hl : PE X l tl) : PI X tg l (iSeq X.K tl) := by
  refine ⟨fun pins s σ H R I h => ?_⟩
  refine thn (hl.run pins s σ H _ I h) fun v s1 ⟨x, H1, I1, r1, q1⟩ => ?_
  rcases q1 with ⟨a, e, q1⟩ | ⟨z, e, q⟩
  · subst e
    cases r1
    rcases q1 with ⟨⟨xs, hq⟩, q⟩ | ⟨⟨xs, hq⟩, q⟩
    · obtain ⟨its, rv, p, hz⟩ := I1.list hq
      refine wpAny_pyIter_list p.isList ?_
      refine ⟨s1.heap.objs.size, [s1.heap.objs.size], _, _, H1, rfl, I1.kept (t' := s1.toks) fun b o e => Heap.get?_push_of_some _ e, turn_list a _, ⟨_, Heap.get?_push_size _ rfl, rfl, rfl⟩, fun b hb => ?_, q⟩
      have e : b = s1.heap.objs.size := by simpa using hb
      subst e
      exact I1.fpOk (Nat.le_refl _) (I1.hok.fresh (Nat.le_refl _))
    · obtain ⟨its, rv, p, hz⟩ := I1.tuple hq
      refine wpAny_pyIter_tuple (show s1.heap.IsTuple a its.toArray from p) ?_
      refine ⟨s1.heap.objs.size, [s1.heap.objs.size], _, _, H1, rfl, I1.kept (t' := s1.toks) fun b o e => Heap.get?_push_of_some _ e, turn_tuple a _, ⟨_, Heap.get?_push_size _ rfl, rfl, rfl⟩, fun b hb => ?_, q⟩
      have e : b = s1.heap.objs.size := by simpa using hb
      subst e
      exact I1.fpOk (Nat.le_refl _) (I1.hok.fresh (Nat.le_refl _))
  · subst e
    obtain ⟨t, rfl⟩ := r1
    cases ha : z.cps.all (· < 128)
    · exact wpAny_pyIter_wide ha (pi_one (tk := s1.toks) I1 _ (turn_str _ z t "str_iterator" (.inr rfl)) ⟨_, Heap.get?_push_size _ rfl, rfl, rfl⟩ q)
    · exact wpAny_pyIter_ascii ha (pi_one (tk := s1.toks) I1 _ (turn_str _ z t "str_ascii_iterator" (.inl rfl)) ⟨_, Heap.get?_push_size _ rfl, rfl, rfl⟩ q)
def ziSeq (t : ZT) : ZTI := fun ss Q => zF t ss fun d s => match d with
  | .lst _ xs => Q xs s
  | .tup xs => Q xs s
  | .str z => Q (z.cps.toList.map fun c => D.str ⟨#[c]⟩) s
  | _ => False
theorem SqL.uniq_frz {K : Frag} {H : Hp} {a : Addr} {o : Obj} {xs ys : List V} (h : H a = some (.frz o (.lst xs))) (h2 : Rd H a (.lst ys)) : xs = ys := by
  rcases h2 with h2 | ⟨o', h2⟩
  · rw [h] at h2; cases h2
  · rw [h] at h2; cases h2; rfl
end

section
variable {X : Cx} {G : Addr → Prop} {B : Hp} {Wz : WZ} {k : Nat} {e a b c : Expr} {t : ZT} {tb : ZTB} {pos : Pos} {st : Stmt} {rest body els : List Stmt} {z u v : ZTS}
theorem itok_list {K : Frag} {H : Hp} {a : Addr} {xs : List V} {ds : List D} (h : ∀ H1, Kp H H1 → SqL K H1 a xs) (r : DRs K G H xs ds) : ItOk K G (Itl K a) ds H := by
  refine ⟨fun H1 k i hi => ?_, fun H1 k i hi _ => ⟨xs, h H1 k, by rw [r.length]; exact hi⟩⟩
  have hx : i < xs.length := by rw [r.length]; exact hi
  refine ⟨⟨xs, xs[i], h H1 k, List.getElem?_eq_getElem hx⟩, fun x H2 y => ?_⟩
  obtain ⟨e, y⟩ := y
  subst e
  obtain ⟨d, e1, rd⟩ := r.get' (y xs (h _ k))
  exact ⟨Same.refl _, d, e1, rd.kp k⟩
theorem itok_tup {K : Frag} {H : Hp} {a : Addr} {xs : List V} {ds : List D} (h : SqT K H a xs) (r : DRs K G H xs ds) : ItOk K G (Itt K a) ds H := by
  refine ⟨fun H1 k i hi => ?_, fun H1 k i hi _ => ⟨xs, sqT_kp k h, by rw [r.length]; exact hi⟩⟩
  have hx : i < xs.length := by rw [r.length]; exact hi
  refine ⟨⟨xs, xs[i], sqT_kp k h, List.getElem?_eq_getElem hx⟩, fun x H2 y => ?_⟩
  obtain ⟨e, y⟩ := y
  subst e
  obtain ⟨d, e1, rd⟩ := r.get' (y xs (sqT_kp k h))
  exact ⟨Same.refl _, d, e1, rd.kp k⟩
theorem itok_str {K : Frag} {H : Hp} (z : Str) : ItOk K G (Its z) (z.cps.toList.map fun c => D.str ⟨#[c]⟩) H := by
  refine ⟨fun H1 k i hi => ?_, fun H1 k i hi _ => (show z.cps.size ≤ i from (by simpa using hi))⟩
  have hx : i < z.cps.size := by simpa using hi
  refine ⟨hx, fun x H2 y => ?_⟩
  obtain ⟨e, c, hc, ex⟩ := y
  subst e; subst ex
  refine ⟨Same.refl _, .str ⟨#[c]⟩, ?_, .str _⟩
  rw [List.getElem?_map, Array.getElem?_toList, hc]; rfl
theorem itok_rng {K : Frag} {H : Hp} (lo : Int) (n : Nat) : ItOk K G (Itr lo n) ((List.range n).map fun i : Nat => D.int (lo + i)) H := by
  refine ⟨fun H1 k i hi => ?_, fun H1 k i hi _ => (show n ≤ i from (by simpa using hi))⟩
  have hx : i < n := by simpa using hi
  refine ⟨hx, fun x H2 y => ?_⟩
  obtain ⟨e, ex⟩ := y
  subst e; subst ex
  refine ⟨Same.refl _, .int (lo + i), ?_, .int _⟩
  rw [List.getElem?_map, List.getElem?_range hx]; rfl
/-- a frozen list's address -/
theorem DR.lq {K : Frag} {H : Hp} {v : V} {m : Nat} {ds : List D} (h : DR K G H v (.lst m ds)) : ∃ a xs, v = .ref a ∧ (∀ H1, Kp H H1 → SqL K H1 a xs) ∧ DRs K G H xs ds := by
  cases h with
  | lst0 a g b => exact ⟨_, _, rfl, fun H1 k => .inl (.inr ⟨_, k.frz _ _ _ a⟩), b⟩
  | lst1 a g b => exact ⟨_, _, rfl, fun H1 k => .inl (.inr ⟨_, k.frz _ _ _ a⟩), b⟩
  | lst2 a b => exact ⟨_, _, rfl, fun H1 k => .inr a, b⟩
/-- a, b, .. = a tuple or a list of that length -/
def gTL (n : Nat) (gs : ZG2) : ZG1 := fun d ss Q => match d with
  | .tup ds => Sd (ds.length = n) ∧ gs ds ss Q
  | .lst _ ds => Sd (ds.length = n) ∧ gs ds ss Q
  | _ => False
theorem pg_either {e : Expr} {t u : TG} (h1 : PG X e t) (h2 : PG X e u) : PG X e fun v σ H Q => t v σ H Q ∨ u v σ H Q :=
  ⟨fun pins s σ H v us Q I r hw => hw.elim (fun q => h1.run pins s σ H v us Q I r q) fun q => h2.run pins s σ H v us Q I r q⟩
theorem g_tupL {es : List Expr} {kk : Nat} {gs : ZG2} {n : Nat} (hc : X.calm = true) (h : ZGs X G B es gs) (hn : (assignEach es X.env).length = n := by rfl) (hst : (assignEach es X.env).findIdx? (·.1) = none := by rfl) : ZG X G B (.Tuple es kk pos) (gTL n gs) := by
  obtain ⟨tg, p, r⟩ := h
  refine ⟨_, pg_either (pg_tup hc p hn hst) (pg_unl hc p hn hst), fun σ H ss v d Q R S rd hw fin => ?_⟩
  cases d with
  | tup ds =>
    cases rd with
    | tup h1 h2 => exact .inl ⟨_, _, rfl, h1, by rw [h2.length]; exact hw.1.h, r σ H ss _ ds Q R S h2 hw.2 fin⟩
  | lst m ds =>
    obtain ⟨a, xs, rfl, g1, g2⟩ := rd.lq
    exact .inr ⟨_, _, rfl, g1 H (Kp.refl _), by rw [g2.length]; exact hw.1.h, r σ H ss _ ds Q R S g2 hw.2 fin⟩
  | _ => exact hw.elim
theorem zi_seq {tg : Expr} (h : ZE X G B e t) : ZIt X G B tg e (ziSeq t) := by
  obtain ⟨te, p, r⟩ := z_fz h
  refine ⟨_, pi_seq p, fun σ H ss Q R S hw fin => ?_⟩
  refine r σ H ss _ _ S hw fun v H1 d s1 k1 S1 rd q => ?_
  cases d with
  | lst m ds =>
    obtain ⟨a, xs, rfl, h1, h2⟩ := rd.lq
    exact .inl ⟨a, rfl, .inl ⟨⟨xs, h1 H1 (Kp.refl _)⟩, fin _ H1 ds s1 k1 S1 (itok_list h1 h2) q⟩⟩
  | tup ds =>
    cases rd with
    | @tup a xs _ h1 h2 => exact .inl ⟨a, rfl, .inr ⟨⟨xs, h1⟩, fin _ H1 ds s1 k1 S1 (itok_tup h1 h2) q⟩⟩
  | str zz =>
    cases rd
    exact .inr ⟨zz, rfl, fin _ H1 _ s1 k1 S1 (itok_str zz) q⟩
  | _ => exact q.elim
def rngD (lo : Int) (n : Nat) : List D := (List.range n).map fun i : Nat => D.int (lo + i)
def ziR1 (ts : ZTA) : ZTI := fun ss Q => ts ss fun rs s => match rs with
  | [.d (.int j)] => Sd (-(2 ^ 62) ≤ j ∧ j < 2 ^ 62) ∧ Q (rngD 0 j.toNat) s
  | _ => False
def ziR2 (ts : ZTA) : ZTI := fun ss Q => ts ss fun rs s => match rs with
  | [.d (.int i), .d (.int j)] => Sd (-(2 ^ 62) ≤ i ∧ i < 2 ^ 62 ∧ -(2 ^ 62) ≤ j ∧ j < 2 ^ 62) ∧ Q (rngD i (j - i).toNat) s
  | _ => False
theorem zi_range1 {tg : Expr} {ts : ZTA} {p : Pos} (hm : X.mg "range" = none) (ha : ZA X G B [a] ts) (hg : Gl X "range" := by rfl) (hs : starEach [a] X.env = [(false, eval a X.env)] := by rfl) : ZIt X G B tg (.Call (.Name "range" p) [a] [] pos) (ziR1 ts) := by
  obtain ⟨te, pa, r⟩ := ha
  refine ⟨_, pi_range1 hg hm pa hs, fun σ H ss Q R S hw fin => ?_⟩
  refine r σ H ss _ _ S hw fun vs H1 rs s1 k1 S1 ar q => ?_
  match rs, vs, ar, q with
  | [.d (.int j)], [v], ar, q =>
    have hr := ar.1
    cases hr
    exact ⟨j, rfl, q.1.h.1, q.1.h.2, fin _ H1 _ s1 k1 S1 (itok_rng 0 j.toNat) q.2⟩
theorem zi_range2 {tg : Expr} {ts : ZTA} {p : Pos} (hm : X.mg "range" = none) (ha : ZA X G B [a, b] ts) (hg : Gl X "range" := by rfl) (hs : starEach [a, b] X.env = [(false, eval a X.env), (false, eval b X.env)] := by rfl) (hs2 : starEach [b] X.env = [(false, eval b X.env)] := by rfl) : ZIt X G B tg (.Call (.Name "range" p) [a, b] [] pos) (ziR2 ts) := by
  obtain ⟨te, pa, r⟩ := ha
  refine ⟨_, pi_range2 hg hm pa hs hs2, fun σ H ss Q R S hw fin => ?_⟩
  refine r σ H ss _ _ S hw fun vs H1 rs s1 k1 S1 ar q => ?_
  match rs, vs, ar, q with
  | [.d (.int i), .d (.int j)], [v, w], ar, q =>
    have hr := ar.1
    have hr2 := ar.2.1
    cases hr
    cases hr2
    exact ⟨i, j, rfl, q.1.h, fin _ H1 _ s1 k1 S1 (itok_rng i _) q.2⟩
/-! ## the rule for a def -/
def retK (Qz : RV → Prop) : RV → SS → Prop := fun r ss => match r with
  | .d x => Qz (.d x)
  | .new o => Qz (.new o)
  | .loc i => match ss[i]? with
    | some (some o) => Qz (.new o)
    | _ => False
def argS : List D → SS
  | [] => []
  | d :: ds => some (.pure d) :: argS ds
theorem argS_map : ∀ ds, argS ds = ds.map (fun d => some (.pure d))
  | [] => rfl
  | d :: ds => by rw [List.map_cons, ← argS_map ds]; rfl
def args (ds : List D) (n : Nat) : SS := argS ds ++ List.replicate (n - ds.length) none
theorem args_sm {K : Frag} {H : Hp} {N : List Str} {vs : List V} {ds : List D} (hg : ∀ a, G a → ∃ o, H a = some o) (r : DRs K G H vs ds) (hl : ds.length ≤ N.length) : Sm K G H [] (L2.start N vs) H (args ds N.length) := by
  have hl2 := r.length
  refine ⟨Same.refl H, ⟨fun _ => [], fun i o h => ?_, fun _ => List.nodup_nil, fun i j a h => by simp at h, fun i a h => by simp at h, fun _ _ => rfl⟩, fun a h => by simp at h, hg, ?_⟩
  · unfold args at h; rw [argS_map] at h
    by_cases hi : i < ds.length
    · rw [List.getElem?_append_left (by simpa using hi), List.getElem?_map] at h
      cases e : ds[i]? with
      | none => rw [e] at h; cases h
      | some d =>
        rw [e] at h; cases h
        obtain ⟨v, e1, rd⟩ := r.get e
        refine ⟨v, ?_, .pure rd⟩
        unfold L2.start
        rw [List.getElem?_append_left (by simp; omega), List.getElem?_map, e1]; rfl
    · rw [List.getElem?_append_right (by simpa using hi), List.getElem?_replicate] at h
      split at h <;> cases h
  · unfold args L2.start; rw [argS_map]
    simp; omega
theorem fn_z {P : Program} {w : World} {K : Frag} {mg : Str → Option Value} {base : Heap} {x qual : Str} {st : Stmt} {f : Addr} {fd : FuncData} {N ps : List Str} {k : Nat} {fs : FS} (F : Fun K x qual st f fd) (S : FnScope N ps (defScope st))
    (hl : ∀ ds Q E, fs ds Q E → ds.length = ps.length) (zs : WZ → ZTS)
    (body : ∀ (cdv : Value) (A : Around) (outer : List Env) (s : Shared) (H : Hp) (E : XK) (G : Addr → Prop) (B : Hp) (Wz : WZ), Ctx (cxOf (L2.CX P w) P w K mg base N qual (defScope st) f cdv A outer s H E) G B Wz k →
      ZSs (cxOf (L2.CX P w) P w K mg base N qual (defScope st) f cdv A outer s H E) G B (defBody st) (zs Wz))
    (read : ∀ ds Qz Ez, fs ds Qz Ez → zs (fun cls ns es _ => Ez cls ns es) ⟨fun _ => Qz (.d .non), retK Qz, fun _ => False, fun _ => False⟩ (args ds N.length)) :
    FnOk P w K mg base (L2.CX P w) (k + 1) f fd ps (toSp K fs) := by
  have hlen : ∀ vs H Q E, toSp K fs vs H Q E → vs.length = ps.length := fun vs H Q E ⟨G, ds, Qz, Ez, _, hd, hf, _⟩ => by rw [hd.length]; exact hl ds Qz Ez hf
  have hps : ps.length ≤ N.length := by have := congrArg List.length S.pre; rw [List.length_take] at this; omega
  refine F.okX S hlen fun cdv A outer s H vs Q E hr hsp => ?_
  obtain ⟨G, ds, Qz, Ez, hg, hd, hf, hq, he⟩ := hsp
  have C : Ctx (cxOf (L2.CX P w) P w K mg base N qual (defScope st) f cdv A outer s H E) G H (fun cls ns es _ => Ez cls ns es) k :=
    ⟨hr, S.nd, rfl, passes_of rfl, ⟨_, takes_of rfl rfl rfl rfl, fun σ H' ss cls d c ns es S' xr w => he cls d H' c ns es S'.keep xr w⟩⟩
  obtain ⟨ts, p, r⟩ := body cdv A outer s H E G H _ C
  refine ⟨ts, p, r _ H _ _ _ (args_sm hg hd (by rw [hl ds Qz Ez hf]; exact hps)) (read ds Qz Ez hf) ⟨fun σ' H' ss' k S' q => ?_, fun σ' v H' r ss' k rr q => ?_, fun _ _ _ _ _ q => q.elim, fun _ _ _ _ _ q => q.elim⟩⟩
  · exact hq .non H' (.d .non) (show Same H H' ∧ DR K G H' .non .non from ⟨S'.keep, .non⟩) q
  · cases r with
    | d x => exact hq v H' (.d x) (show Same H H' ∧ DR K G H' v x from ⟨rr.1.keep, rr.2⟩) q
    | new o =>
      obtain ⟨as, S', ro, nd⟩ := rr
      exact hq v H' (.new o) ⟨as, S'.keep, ro, nd, S'.nn⟩ q
    | loc i =>
      obtain ⟨S', ev⟩ := rr
      unfold retK at q
      cases es : ss'[i]? with
      | none => simp only [es] at q
      | some oo =>
        cases oo with
        | none => simp only [es] at q
        | some o =>
          simp only [es] at q
          obtain ⟨v', as, ev', ro, nd, S2⟩ := S'.take es
          rw [ev] at ev'; cases ev'
          exact hq v H' (.new o) ⟨as, S2.keep, ro, nd, S2.nn⟩ q
/-! ## comprehensions -/
def wipS (ss : SS) : List Nat → SS
  | [] => ss
  | v :: vs => (wipS ss vs).set v none
theorem Sm.wip {K : Frag} {σ : St} {H : Hp} {ss : SS} (S : Sm K G B [] σ H ss) : ∀ vs : List Nat, Sm K G B [] (wipe σ vs) H (wipS ss vs)
  | [] => S
  | v :: vs => by
    have S1 := Sm.wip S vs
    have S2 := S1.drop v
    obtain ⟨A, W⟩ := S2.own
    refine ⟨S2.keep, ⟨A, fun i o h => ?_, W.nd, W.ap, W.fr, W.off⟩, S2.nn, S2.gb, ?_⟩
    · have h' : ((wipS ss vs).set v none)[i]? = some (some o) := h
      obtain ⟨w, e, r⟩ := W.at_ i o h'
      refine ⟨w, ?_, r⟩
      unfold wipe
      rcases get_set h' with ⟨rfl, q⟩ | ⟨ne, _⟩
      · cases q
      · rw [List.getElem?_set_ne (Ne.symm ne)]; exact e
    · unfold wipe wipS
      simp only [List.length_set]
      exact S1.len
theorem wipe_wipe (σ : St) : ∀ vs : List Nat, wipe (wipe σ vs) vs = wipe σ vs
  | vs => by
    apply List.ext_getElem?
    intro i
    have key : ∀ (us : List Nat) (τ : St) (i : Nat), (wipe τ us)[i]? = if i ∈ us then (τ[i]?).map (fun _ => none) else τ[i]? := by
      intro us
      induction us with
      | nil => intro τ i; simp [wipe]
      | cons u us ih =>
        intro τ i
        show ((wipe τ us).set u none)[i]? = _
        by_cases e : u = i
        · subst e
          rw [List.getElem?_set]
          simp only [List.mem_cons, true_or, if_true]
          by_cases hl : u < (wipe τ us).length
          · rw [if_pos hl]
            have : u < τ.length := by rw [wipe_length] at hl; exact hl
            rw [List.getElem?_eq_getElem this]; rfl
          · rw [if_neg hl]
            have : τ.length ≤ u := by rw [wipe_length] at hl; omega
            rw [List.getElem?_eq_none this]; rfl
        · rw [List.getElem?_set_ne e, ih]
          have : (i ∈ u :: us) ↔ i ∈ us := by simp [Ne.symm e]
          by_cases h : i ∈ us
          · rw [if_pos h, if_pos (this.mpr h)]
          · rw [if_neg h, if_neg (fun q => h (this.mp q))]
    rw [key, key]
    by_cases h : i ∈ vs
    · rw [if_pos h, if_pos h]; cases σ[i]? <;> rfl
    · rw [if_neg h, if_neg h]
end

/-! ## list comprehensions -/
section
variable {K : Frag} {G : Addr → Prop} {B : Hp} {σ : St} {H : Hp} {ss : SS} {D₀ : Addr}
theorem Sm.hide {o : HO} (S : Sm K G B [D₀] σ H ss) (h : H D₀ = some o) : Sm K G (upd B D₀ o) [] σ H ss := by
  obtain ⟨A, W⟩ := S.own
  refine ⟨fun b u e => ?_, ⟨A, W.at_, W.nd, W.ap, fun i a ha => ⟨?_, by simp⟩, W.off⟩, fun a ha => by simp at ha, fun a g => ?_, S.len⟩
  · by_cases q : b = D₀
    · subst q; rw [upd_same] at e; cases e; exact h
    · rw [upd_ne q] at e; exact S.keep b u e
  · have q := W.fr i a ha
    rw [upd_ne (fun z => q.2 (by simp [z]))]; exact q.1
  · obtain ⟨u, hu⟩ := S.gb a g
    by_cases q : a = D₀
    · subst q; exact ⟨o, upd_same⟩
    · exact ⟨u, by rw [upd_ne q]; exact hu⟩
theorem Sm.shown {o : HO} (S : Sm K G (upd B D₀ o) [] σ H ss) (h : B D₀ = none) (hg : ∀ a, G a → ∃ u, B a = some u) : Sm K G B [D₀] σ H ss := by
  obtain ⟨A, W⟩ := S.own
  refine ⟨fun b u e => ?_, ⟨A, W.at_, W.nd, W.ap, fun i a ha => ?_, W.off⟩, fun a ha => ?_, hg, S.len⟩
  · refine S.keep b u ?_
    rw [upd_ne (ne_of_none e h)]; exact e
  · have q := (W.fr i a ha).1
    by_cases z : a = D₀
    · subst z; rw [upd_same] at q; cases q
    · rw [upd_ne z] at q; exact ⟨q, by simp [z]⟩
  · simp at ha; rw [ha]; exact h
theorem Sm.wrN {xs ys : List V} (S : Sm K G B [D₀] σ H ss) (h : H D₀ = some (.lst xs)) : Sm K G B [D₀] σ (upd H D₀ (.lst ys)) ss ∧ Kp H (upd H D₀ (.lst ys)) := by
  have kp : Kp H (upd H D₀ (.lst ys)) := Kp.upd h trivial
  obtain ⟨A, W⟩ := S.own
  refine ⟨⟨fun b o eb => ?_, ⟨A, fun i o eb => ?_, W.nd, W.ap, W.fr, W.off⟩, S.nn, S.gb, S.len⟩, kp⟩
  · rw [upd_ne (ne_of_none eb (S.nn D₀ (by simp)))]
    exact S.keep b o eb
  · obtain ⟨w, e1, r1⟩ := W.at_ i o eb
    exact ⟨w, e1, r1.kp kp fun b hb => upd_ne fun q => (W.fr i b hb).2 (by simp [q])⟩
theorem Sm.unwip {N : List Addr} {vs : List Nat} (S : Sm K G B N (wipe σ vs) H ss) : Sm K G B N σ H ss := by
  obtain ⟨A, W⟩ := S.own
  refine ⟨S.keep, ⟨A, fun i o e => ?_, W.nd, W.ap, W.fr, W.off⟩, S.nn, S.gb, by rw [S.len, wipe_length]⟩
  obtain ⟨w, e1, r1⟩ := W.at_ i o e
  exact ⟨w, (wipe_some e1).1, r1⟩
theorem Sm.wipN {N : List Addr} {vs : List Nat} (S : Sm K G B N σ H ss) : Sm K G B N (wipe σ vs) H (wipS ss vs) := by
  have S1 := S.weak.wip vs
  obtain ⟨A, W⟩ := S.own
  have hs : ∀ (us : List Nat) (i : Nat) (o : O), (wipS ss us)[i]? = some (some o) → ss[i]? = some (some o) := by
    intro us
    induction us with
    | nil => intro i o h; exact h
    | cons u us ih =>
      intro i o h
      have h' : ((wipS ss us).set u none)[i]? = some (some o) := h
      rcases get_set h' with ⟨rfl, q⟩ | ⟨ne, q⟩
      · cases q
      · exact ih i o q
  obtain ⟨A1, W1⟩ := S1.own
  refine ⟨S1.keep, ⟨fun i => (match (wipS ss vs)[i]? with | some (some _) => A i | _ => []), fun i o e => ?_, fun i => ?_, fun i j a h1 h2 => ?_, fun i a h => ?_, fun i q => ?_⟩, S.nn, S.gb, S1.len⟩
  · simp only [e]
    obtain ⟨w, e1, r1⟩ := W.at_ i o (hs vs i o e)
    obtain ⟨w1, e2, _⟩ := W1.at_ i o e
    have e3 := (wipe_some e2).1
    rw [e1] at e3; cases e3
    exact ⟨w, e2, r1⟩
  · split
    · exact W.nd i
    · exact List.nodup_nil
  · split at h1
    · split at h2
      · exact W.ap i j a h1 h2
      · simp at h2
    · simp at h1
  · split at h
    · exact W.fr i a h
    · simp at h
  · split
    · rename_i o e; exact absurd e (q o)
    · rfl
theorem wipe_set {v : Option V} {vs : List Nat} {i : Nat} (h : i ∈ vs) (σ : St) : wipe (σ.set i v) vs = wipe σ vs := by
  have key : ∀ (us : List Nat) (τ : St) (i : Nat), (wipe τ us)[i]? = if i ∈ us then (τ[i]?).map (fun _ => none) else τ[i]? := by
    intro us
    induction us with
    | nil => intro τ i; simp [wipe]
    | cons u us ih =>
      intro τ i
      show ((wipe τ us).set u none)[i]? = _
      by_cases e : u = i
      · subst e
        rw [List.getElem?_set]
        simp only [List.mem_cons, true_or, if_true]
        by_cases hl : u < (wipe τ us).length
        · rw [if_pos hl]
          have : u < τ.length := by rw [wipe_length] at hl; exact hl
          rw [List.getElem?_eq_getElem this]; rfl
        · rw [if_neg hl]
          have : τ.length ≤ u := by rw [wipe_length] at hl; omega
          rw [List.getElem?_eq_none this]; rfl
      · rw [List.getElem?_set_ne e, ih]
        have : (i ∈ u :: us) ↔ i ∈ us := by simp [Ne.symm e]
        by_cases h : i ∈ us
        · rw [if_pos h, if_pos (this.mpr h)]
        · rw [if_neg h, if_neg (fun q => h (this.mp q))]
  apply List.ext_getElem?
  intro j
  rw [key, key]
  by_cases hj : j ∈ vs
  · rw [if_pos hj, if_pos hj]
    by_cases e : i = j
    · subst e
      by_cases hl : i < σ.length
      · rw [List.getElem?_set_self hl, List.getElem?_eq_getElem hl]; rfl
      · rw [List.getElem?_eq_none (by simpa using hl), List.getElem?_eq_none (by omega)]
    · rw [List.getElem?_set_ne e]
  · rw [if_neg hj, if_neg hj, List.getElem?_set_ne (fun e => hj (by rw [← e]; exact h))]
end
/-- the reading that t says, in any context -/
def teOf (K : Frag) (G : Addr → Prop) (t : ZT) : TE := fun σ H R => ∃ (B : Hp) (ss : SS) (Q : RV → SS → Prop), Sm K G B [] σ H ss ∧ t ss Q ∧ ∀ v H' r ss', Kp H H' → RR K G B σ H' ss' v r → Q r ss' → R v H'
theorem pe_of {X : Cx} {G : Addr → Prop} {e : Expr} {t : ZT} (h : ∀ B, ZE X G B e t) : PE X e (teOf X.K G t) := by
  refine ⟨fun pins s σ H R I hw => ?_⟩
  obtain ⟨B, ss, Q, S, ht, fin⟩ := hw
  obtain ⟨te, p, z⟩ := h B
  exact p.run pins s σ H R I (z σ H ss Q R S ht fin)
def ttOf (K : Frag) (G : Addr → Prop) (t : ZTB) : TT := fun σ H R => ∃ (B : Hp) (ss : SS) (Q : Bool → SS → Prop), Sm K G B [] σ H ss ∧ t ss Q ∧ ∀ b H' ss', Kp H H' → Sm K G B [] σ H' ss' → Q b ss' → R b H'
def ZTs (X : Cx) (G : Addr → Prop) (B : Hp) (es : List Expr) (t : ZTB) : Prop := ∃ te, PTs X es te ∧ ZrB X.K G B te t
theorem pts_of {X : Cx} {G : Addr → Prop} {es : List Expr} {t : ZTB} (h : ∀ B, ZTs X G B es t) : PTs X es (ttOf X.K G t) := by
  refine ⟨fun pins s σ H R I hw => ?_⟩
  obtain ⟨B, ss, Q, S, ht, fin⟩ := hw
  obtain ⟨te, p, z⟩ := h B
  exact p.run pins s σ H R I (z σ H ss Q R S ht fin)
def zYes : ZTB := fun ss Q => Q true ss
theorem ts_nil {X : Cx} {G : Addr → Prop} {B : Hp} : ZTs X G B [] zYes := ⟨_, pts_nil, fun σ H ss Q R S hw fin => fin true H ss (Kp.refl H) S hw⟩
theorem ts_one {X : Cx} {G : Addr → Prop} {B : Hp} {c : Expr} {t : ZTB} (h : ZB X G B c t) : ZTs X G B [c] t := by obtain ⟨te, p, z⟩ := h; exact ⟨_, pts_one p, z⟩
/-- a target of a comprehension: only the slots vs change -/
def tgOf (K : Frag) (G : Addr → Prop) (vs : List Nat) (g : ZG1) : TG := fun v σ H R => ∃ (B : Hp) (ss : SS) (d : D) (Q : SS → Prop), Sm K G B [] σ H ss ∧ DR K G H v d ∧ g d ss Q ∧ ∀ σ' H' ss', wipe σ' vs = wipe σ vs → Kp H H' → Sm K G B [] σ' H' ss' → Q ss' → R σ' H'
def ZGc (X : Cx) (G : Addr → Prop) (B : Hp) (vs : List Nat) (e : Expr) (g : ZG1) : Prop := ∃ tg, PG X e tg ∧ ∀ (σ : St) (H : Hp) (ss : SS) (v : V) (d : D) (Q : SS → Prop) (R : St → Hp → Prop), Sm X.K G B [] σ H ss → DR X.K G H v d → g d ss Q →
  (∀ σ' H' ss', wipe σ' vs = wipe σ vs → Kp H H' → Sm X.K G B [] σ' H' ss' → Q ss' → R σ' H') → tg v σ H R
def ZGcs (X : Cx) (G : Addr → Prop) (B : Hp) (vs : List Nat) (es : List Expr) (g : ZG2) : Prop := ∃ tg : TGs, PGs X es tg ∧ ∀ (σ : St) (H : Hp) (ss : SS) (ws : List V) (ds : List D) (Q : SS → Prop) (R : St → Hp → Prop), Sm X.K G B [] σ H ss → DRs X.K G H ws ds → g ds ss Q →
  (∀ σ' H' ss', wipe σ' vs = wipe σ vs → Kp H H' → Sm X.K G B [] σ' H' ss' → Q ss' → R σ' H') → tg ws σ H R
theorem pg_of {X : Cx} {G : Addr → Prop} {vs : List Nat} {e : Expr} {g : ZG1} (h : ∀ B, ZGc X G B vs e g) : PG X e (tgOf X.K G vs g) := by
  refine ⟨fun pins s σ H v u R I rv hw => ?_⟩
  obtain ⟨B, ss, d, Q, S, rd, hg, fin⟩ := hw
  obtain ⟨tg, p, z⟩ := h B
  exact p.run pins s σ H v u R I rv (z σ H ss v d Q R S rd hg fin)
section
variable {X : Cx} {G : Addr → Prop} {B : Hp} {Wz : WZ} {k : Nat} {e : Expr} {pos : Pos} {vs : List Nat}
theorem gc_name {i : Nat} {x : Str} (hN : X.N.Nodup) (hi : X.N[i]? = some x := by rfl) (hm : i ∈ vs := by decide) (hx : Loc X.env.scope x := by first | exact Or.inl rfl | exact Or.inr rfl) (hf : X.fn x = true ∨ X.env.scope.names.lookup x = some .local := by first | exact .inl rfl | exact .inr rfl) : ZGc X G B vs (.Name x pos) (gN i) :=
  ⟨_, pg_name hN hi hx hf, fun σ H ss v d Q R S r hw fin => fin _ H _ (wipe_set hm σ) (Kp.refl H) (S.setD' r) ((fc_iff _ _).mp hw)⟩
theorem gcs_nil : ZGcs X G B vs [] gsNil := by
  refine ⟨_, pgs_nil, fun σ H ss ws ds Q R S r hw fin => ?_⟩
  cases r with
  | nil => exact ⟨rfl, fin σ H ss rfl (Kp.refl H) S hw⟩
  | cons _ _ => exact hw.elim
theorem gcs_cons {es : List Expr} {g : ZG1} {gs : ZG2} (h1 : ZGc X G B vs e g) (h2 : ZGcs X G B vs es gs) (hs : (assignEach (e :: es) X.env).map (·.2) = assign e X.env :: (assignEach es X.env).map (·.2) := by rfl) : ZGcs X G B vs (e :: es) (gsCons g gs) := by
  obtain ⟨te, p, r1⟩ := h1
  obtain ⟨te2, p2, r2⟩ := h2
  refine ⟨_, pgs_cons p p2 hs, fun σ H ss ws ds Q R S r hw fin => ?_⟩
  cases r with
  | nil => exact hw.elim
  | cons ra rb =>
    refine ⟨_, _, rfl, r1 σ H ss _ _ _ _ S ra hw fun σ' H' ss' w k S' q => ?_⟩
    exact r2 σ' H' ss' _ _ _ _ S' (rb.kp k) q fun σ2 H2 s2 w2 k2 S2 q2 => fin σ2 H2 s2 (w2.trans w) (k.trans k2) S2 q2
theorem gc_tup {es : List Expr} {kk : Nat} {gs : ZG2} {n : Nat} (hc : X.calm = true) (h : ZGcs X G B vs es gs) (hn : (assignEach es X.env).length = n := by rfl) (hst : (assignEach es X.env).findIdx? (·.1) = none := by rfl) : ZGc X G B vs (.Tuple es kk pos) (gT n gs) := by
  obtain ⟨tg, p, r⟩ := h
  refine ⟨_, pg_tup hc p hn hst, fun σ H ss v d Q R S rd hw fin => ?_⟩
  cases d with
  | tup ds =>
    cases rd with
    | tup h1 h2 => exact ⟨_, _, rfl, h1, by rw [h2.length]; exact hw.1.h, r σ H ss _ ds Q R S h2 hw.2 fin⟩
  | _ => exact hw.elim
/-- one turn after the other -/
def zLcL (g : ZG1) (tt : ZTB) (t : ZT) (vs : List Nat) (Q : List D → SS → Prop) : List D → List D → SS → Prop
  | [], acc, ss => Q acc ss
  | x :: xs, acc, ss => g x ss fun s2 => tt s2 fun b s3 => Br b (zF t s3 fun y s4 => Sd (acc.length < sizeLine) ∧ fc (wipS s4 vs) fun s5 => zLcL g tt t vs Q xs (acc ++ [y]) s5) (fc (wipS s3 vs) fun s5 => zLcL g tt t vs Q xs acc s5)
def zLcQ (zi : ZTI) (g : ZG1) (tt : ZTB) (t : ZT) (vs : List Nat) (ss : SS) (Q : List D → SS → Prop) : Prop := zi ss fun items s => fc (wipS s vs) fun s5 => zLcL g tt t vs Q items [] s5
def zLc (zi : ZTI) (g : ZG1) (tt : ZTB) (t : ZT) (vs : List Nat) : ZT := fun ss Q => zLcQ zi g tt t vs ss fun acc s' => Q (.new (.lst acc)) s'
/-- nothing that is raised leaves a comprehension's block -/
theorem Ctx.blk (C : Ctx X G B Wz k) (s : Shared) (H : Hp) (scope : Scope) (cenv : Env) (fp : List Addr) (B' : Hp) : Ctx (X.blk s H scope cenv fp) G B' (fun _ _ _ _ => False) k :=
  ⟨C.room, C.nd, C.calm, PassesOwn.never, ⟨fun _ _ _ _ => False, takes0, fun _ _ _ _ _ _ _ _ _ _ h => h⟩⟩
theorem lc_zr {K : Frag} {wi : TI} {zi : ZTI} {g : ZG1} {tt : ZTB} {t : ZT} (hi : ZIr K G B wi zi) (σ : St) (H : Hp) (ss : SS) (Q : List D → SS → Prop) (R : VK) (S : Sm K G B [] σ H ss) (hw : zLcQ zi g tt t vs ss Q)
    (fin : ∀ v H' acc ss', Kp H H' → RR K G B σ H' ss' v (.new (.lst acc)) → Q acc ss' → R v H') : tLc wi (tgOf K G vs g) (ttOf K G tt) (tFz (teOf K G t)) vs σ H R := by
  refine hi σ H ss _ _ S hw fun J H0 items s0 k0 S0 it q D nD => ?_
  have sm0 : Same H0 (upd H0 D (.lst [])) := fun b o e => by rw [upd_ne (ne_of_none e nD)]; exact e
  have S1 : Sm K G B [D] (wipe σ vs) (upd H0 D (.lst [])) (wipS s0 vs) := (S0.alloc (N := [D]) sm0 fun a ha => by simp at ha; rw [ha]; exact nD).wipN
  refine ⟨fun i m H' => m = items.length - i ∧ i ≤ items.length ∧ ∃ (ss' : SS) (acc : List L2.V) (ds : List Z.D), Kp H0 H' ∧ Sm K G B [D] (wipe σ vs) H' ss' ∧ H' D = some (.lst acc) ∧ DRs K G H' acc ds ∧ zLcL g tt t vs Q (items.drop i) ds ss',
    ⟨_, rfl, Nat.zero_le _, _, [], [], Kp.of sm0, S1, upd_same, .nil, by simpa using (fc_iff _ _).mp q⟩, ?_⟩
  rintro i m H1 ⟨rfl, hil, s1, acc, ds, k1, S1, hD, rds, q1⟩
  by_cases hlt : i < items.length
  · obtain ⟨g1, y1⟩ := it.go H1 k1 i hlt
    have ed : items.drop i = items[i] :: items.drop (i + 1) := (List.getElem_cons_drop hlt).symm
    rw [ed] at q1
    refine .inr ⟨g1, fun H' => ∃ (ss' : SS) (acc : List L2.V) (ds : List Z.D), Kp H0 H' ∧ Sm K G B [D] (wipe σ vs) H' ss' ∧ H' D = some (.lst acc) ∧ DRs K G H' acc ds ∧ zLcL g tt t vs Q (items.drop (i + 1)) ds ss',
      fun H' h => ⟨items.length - (i + 1), by omega, rfl, hlt, h⟩, fun x H2 y => ?_⟩
    obtain ⟨sm, d, e1, rd⟩ := y1 x H2 y
    have e2 : d = items[i] := by rw [List.getElem?_eq_getElem hlt] at e1; cases e1; rfl
    subst e2
    have hD2 := sm _ _ hD
    have S2 := (S1.same sm).hide hD2
    refine ⟨_, s1, _, _, S2, rd, q1, fun σ3 H3 s3 w3 k3 S3 q3 => ⟨w3.trans (wipe_wipe σ vs), ?_⟩⟩
    refine ⟨_, s3, _, S3, q3, fun b H4 s4 k4 S4 q4 => ?_⟩
    have kk4 : Kp H1 H4 := ((Kp.of sm).trans k3).trans k4
    have ws : ∀ {H' : Hp} {s' : SS}, Sm K G B [D] σ3 H' s' → Sm K G B [D] (wipe σ vs) H' (wipS s' vs) := fun {H' s'} S' => by
      have := S'.wipN (vs := vs)
      rw [w3.trans (wipe_wipe σ vs)] at this; exact this
    have bD : B D = none := S1.nn D (by simp)
    cases b with
    | false =>
      dsimp only
      rw [if_neg Bool.false_ne_true]
      exact ⟨_, acc, ds, k1.trans kk4, ws (S4.shown bD S1.gb), S4.keep D _ upd_same, rds.kp kk4, (fc_iff _ _).mp (q4.f rfl)⟩
    | true =>
      dsimp only
      rw [if_pos rfl]
      have q5 := q4.t rfl
      -- the element, frozen
      have hz : ZrD K G (upd B D (.lst acc)) (tFz (teOf K G t)) (zF t) := by
        intro σ H ss Q R S hw fin
        refine ⟨_, ss, _, S, hw, fun v H' r ss' k rr q => ?_⟩
        cases r with
        | d x => exact .inl (fin v H' x ss' k rr.1 rr.2 q)
        | new o =>
          obtain ⟨as, S', ro, nd⟩ := rr
          cases ef : o.fz with
          | none => simp only [ef] at q
          | some d =>
            simp only [ef] at q
            rcases fz_or S' ro ef with ⟨S2, r2, _⟩ | ⟨a, u, e1, _, e2, mu, q2⟩
            · exact .inl (fin v H' d ss' k S2 r2 q)
            · refine .inr ⟨a, u, e1, e2, mu, fun od => ?_⟩
              obtain ⟨S2, r2, k2⟩ := q2 od
              exact fin v _ d ss' (k.trans k2) S2 r2 q
        | loc i =>
          obtain ⟨S', ev⟩ := rr
          cases es : ss'[i]? with
          | none => simp only [es] at q
          | some oo =>
            cases oo with
            | none => simp only [es] at q
            | some o =>
              cases ef : o.fz with
              | none => simp only [es, ef] at q
              | some d =>
                simp only [es, ef] at q
                obtain ⟨v', as, ev', ro, nd, S2⟩ := S'.take es
                rw [ev] at ev'
                cases ev'
                rcases fz_or S2 ro ef with ⟨S3, r3, _⟩ | ⟨a, u, e1, _, e2, mu, q2⟩
                · refine .inl (fin v H' d _ k ?_ r3 q)
                  have := S3.put ev (.pure r3) List.nodup_nil
                  rw [List.set_set] at this; exact this
                · refine .inr ⟨a, u, e1, e2, mu, fun od => ?_⟩
                  obtain ⟨S3, r3, k2⟩ := q2 od
                  have S4 := S3.put ev (.pure r3) List.nodup_nil
                  rw [List.set_set] at S4
                  exact fin v _ d _ (k.trans k2) S4 r3 q
      refine hz σ3 H4 s4 _ _ S4 q5 fun y H5 d5 s5 k5 S5 r5 q6 => ?_
      have hD5 := S5.keep D _ upd_same
      have S6 := S5.shown bD S1.gb
      obtain ⟨S7, k7⟩ := S6.wrN (ys := acc ++ [y]) hD5
      have kk5 := (kk4.trans k5).trans k7
      exact ⟨acc, hD5, by rw [rds.length]; exact q6.1.h, _, acc ++ [y], ds ++ [d5], k1.trans kk5, ws S7, upd_same, (rds.kp kk5).append (.cons (r5.kp k7) .nil), (fc_iff _ _).mp q6.2⟩
  · have e : i = items.length := by omega
    subst e
    rw [List.drop_length] at q1
    refine .inl ⟨it.stop H1 k1 _ (Nat.le_refl _) (Nat.le_refl _), ?_⟩
    exact fin (.ref D) H1 ds s1 (k0.trans k1) (show ∃ as, Sm K G B as σ H1 s1 ∧ OR K G H1 (.ref D) (.lst ds) as ∧ as.Nodup from ⟨[D], S1.unwip, .lst hD rds, by simp⟩) q1
theorem z_lc {elt tg iter : Expr} {ifs : List Expr} {scope : Scope} {own : List (Str × Nat)} {zi : ZTI} {g : ZG1} {tt : ZTB} {t : ZT} (C : Ctx X G B Wz k) (hi : ZIt X G B tg iter zi) (ok : BlkOk X.N X.env.scope scope own)
    (hg : ∀ (s : Shared) (H : Hp) (C' : Addr) (cl : List (Str × Addr)) (fp : List Addr) (B' : Hp), Ctx (X.blk s H scope (compEnvC scope cl C' X.env) fp) G B' (fun _ _ _ _ => False) k → ZGc (X.blk s H scope (compEnvC scope cl C' X.env) fp) G B' (own.map (·.2)) tg g)
    (ht : ∀ (s : Shared) (H : Hp) (C' : Addr) (cl : List (Str × Addr)) (fp : List Addr) (B' : Hp), Ctx (X.blk s H scope (compEnvC scope cl C' X.env) fp) G B' (fun _ _ _ _ => False) k → ZTs (X.blk s H scope (compEnvC scope cl C' X.env) fp) G B' ifs tt)
    (he : ∀ (s : Shared) (H : Hp) (C' : Addr) (cl : List (Str × Addr)) (fp : List Addr) (B' : Hp), Ctx (X.blk s H scope (compEnvC scope cl C' X.env) fp) G B' (fun _ _ _ _ => False) k → ZE (X.blk s H scope (compEnvC scope cl C' X.env) fp) G B' elt t)
    (hs : ∀ x, foldedSetIterable iter X.env x = pure x := by intro _; rfl) : ZE X G B (.ListComp elt [⟨tg, iter, ifs, 0⟩] scope pos) (zLc zi g tt t (own.map (·.2))) := by
  obtain ⟨wi, p, r⟩ := hi
  refine ⟨_, pe_lc (te := tFz (teOf X.K G t)) (tt := ttOf X.K G tt) (g := tgOf X.K G (own.map (·.2)) g) C.calm C.nd p ok (fun s H C' cl fp => pg_of fun B' => hg s H C' cl fp B' (C.blk s H scope _ fp B')) (fun s H C' cl fp => pts_of fun B' => ht s H C' cl fp B' (C.blk s H scope _ fp B'))
    (fun s H C' cl fp => pe_fz (pe_of fun B' => he s H C' cl fp B' (C.blk s H scope _ fp B'))) hs, fun σ H ss Q R S hw fin => lc_zr r σ H ss _ R S hw fun v H' acc ss' k rr q => fin v H' _ ss' k rr q⟩
/-- name = [..] on one line -/
theorem s_setLc {i : Nat} {y : Str} {py spos : Pos} {elt tg iter : Expr} {ifs : List Expr} {scope : Scope} {own : List (Str × Nat)} {zi : ZTI} {g : ZG1} {tt : ZTB} {t : ZT} (C : Ctx X G B Wz k) (hi : ZIt X G B tg iter zi) (ok : BlkOk X.N X.env.scope scope own)
    (hg : ∀ (s : Shared) (H : Hp) (C' : Addr) (cl : List (Str × Addr)) (fp : List Addr) (B' : Hp), Ctx (X.blk s H scope (compEnvC scope cl C' X.env) fp) G B' (fun _ _ _ _ => False) k → ZGc (X.blk s H scope (compEnvC scope cl C' X.env) fp) G B' (own.map (·.2)) tg g)
    (ht : ∀ (s : Shared) (H : Hp) (C' : Addr) (cl : List (Str × Addr)) (fp : List Addr) (B' : Hp), Ctx (X.blk s H scope (compEnvC scope cl C' X.env) fp) G B' (fun _ _ _ _ => False) k → ZTs (X.blk s H scope (compEnvC scope cl C' X.env) fp) G B' ifs tt)
    (he : ∀ (s : Shared) (H : Hp) (C' : Addr) (cl : List (Str × Addr)) (fp : List Addr) (B' : Hp), Ctx (X.blk s H scope (compEnvC scope cl C' X.env) fp) G B' (fun _ _ _ _ => False) k → ZE (X.blk s H scope (compEnvC scope cl C' X.env) fp) G B' elt t)
    (hsw : swapsWith (.ListComp elt [⟨tg, iter, ifs, 0⟩] scope pos) (some (.Name y py)) spos.line X.env = pure true) (hy : X.N[i]? = some y := by rfl) (hyl : X.env.scope.names.lookup y = some .local := by rfl)
    (hs : ∀ x, foldedSetIterable iter X.env x = pure x := by intro _; rfl) : ZS X G B (.Assign [.Name y py] (.ListComp elt [⟨tg, iter, ifs, 0⟩] scope pos) spos) (zSet i (zLc zi g tt t (own.map (·.2)))) := by
  obtain ⟨wi, p, r⟩ := hi
  refine ⟨_, ps_setLc (te := tFz (teOf X.K G t)) (tt := ttOf X.K G tt) (g := tgOf X.K G (own.map (·.2)) g) C.calm C.nd hy hyl hsw p ok (fun s H C' cl fp => pg_of fun B' => hg s H C' cl fp B' (C.blk s H scope _ fp B')) (fun s H C' cl fp => pts_of fun B' => ht s H C' cl fp B' (C.blk s H scope _ fp B'))
    (fun s H C' cl fp => pe_fz (pe_of fun B' => he s H C' cl fp B' (C.blk s H scope _ fp B'))) hs, fun σ H ss D D' S hw ok => ?_⟩
  refine lc_zr r σ H ss _ _ S hw fun v H' acc ss' k rr q => ?_
  obtain ⟨as, S', ro, nd⟩ := rr
  exact ok.nx _ H' _ k (S'.set' ro nd) ((fc_iff _ _).mp q)
end

section
variable {X : Cx} {G : Addr → Prop} {B : Hp} {Wz : WZ} {k : Nat} {e o a b : Expr} {es : List Expr} {t ta tb : ZT} {ts : ZTA} {pos apos cpos p : Pos}
abbrev W0 : WZ := fun _ _ _ _ => False
/-! ## isinstance of a built-in type -/
inductive TyN where
  | int | bool | str | list | tuple
def TyN.nm : TyN → String
  | .int => "int" | .bool => "bool" | .str => "str" | .list => "list" | .tuple => "tuple"
def D.tyS : D → Option String
  | .non => some "NoneType" | .bl _ => some "bool" | .int _ => some "int" | .str _ => some "str" | .lst _ _ => some "list" | .tup _ => some "tuple" | .dct _ _ _ => some "dict"
  | _ => none
def D.isA : TyN → D → Option Bool
  | .int, .int _ => some true | .int, .bl _ => some true
  | .bool, .bl _ => some true
  | .str, .str _ => some true
  | .list, .lst _ _ => some true
  | .tuple, .tup _ => some true
  | _, .non => some false | _, .bl _ => some false | _, .int _ => some false | _, .str _ => some false | _, .lst _ _ => some false | _, .tup _ => some false | _, .dct _ _ _ => some false
  | _, _ => none
theorem isA_kit {n : TyN} {d : D} {b : Bool} (h : d.isA n = some b) : ∃ s, d.tyS = some s ∧ kitB s n.nm = some b := by
  cases n <;> cases d <;> simp only [D.isA, Option.some.injEq, reduceCtorEq] at h <;> subst h <;> exact ⟨_, rfl, by decide +kernel⟩
theorem VR.tyx {K : Frag} {H : Hp} {v : V} {d : D} {s : String} (h : VR K G H v d) (e : d.tyS = some s) : TyX K H v (.type s) := by
  cases d with
  | non => obtain rfl := h.n; cases e; exact .base .non
  | bl b => obtain rfl := h.b; cases e; exact .base (.bl b)
  | int i => obtain rfl := h.i; cases e; exact .base (.int i)
  | str z => obtain rfl := h.s; cases e; exact .base (.str z)
  | lst m ds =>
    cases e
    cases h with
    | d h =>
      cases h with
      | lst0 a g b => exact .base (.frz a)
      | lst1 a g b => exact .base (.frz a)
      | lst2 a b => obtain ⟨o, its, n, h1, h2, _⟩ := a; exact .kList h1 h2
    | l a b => exact .base (.lst a)
  | tup ds =>
    cases e
    obtain ⟨a, xs, rfl, h1, h2⟩ := h.tq
    rcases h1 with (h1 | ⟨o, h1⟩) | ⟨o, its, n, h1, h2, _⟩
    · exact .base (.tup h1)
    · exact .fTuple h1
    · exact .kTuple h1 h2
  | dct m ks ds =>
    cases e
    cases h with
    | d h =>
      cases h with
      | dct0 a g e b => exact .fDict a
      | dct1 a g e b => exact .fDict a
    | k a e b => exact .base (.dK a)
  | _ => cases e
def zIsi (n : TyN) (t : ZT) : ZT := fun ss Q => zN t ss fun r s => match cv s r with
  | some d => match d.isA n with
    | some b => Q (.d (.bl b)) s
    | none => False
  | none => False
theorem z_isi (n : TyN) {p1 : Pos} (he : ZE X G B e t) (hg : Gl X "isinstance") (hm : X.mg "isinstance" = none) (hg2 : Gl X (Str.ofString n.nm)) (hm2 : X.mg (Str.ofString n.nm) = none) (hv2 : bootBuiltins (Str.ofString n.nm) = some (.type n.nm)) (hn2 : Str.ofString n.nm ≠ "__name__") (hd2 : (Str.ofString n.nm == ("__debug__" : Str)) = false)
    (hv : bootBuiltins "isinstance" = some (.builtin "isinstance") := by decide +kernel)
    (hs1 : starEach [e, .Name (Str.ofString n.nm) p1] X.env = (false, eval e X.env) :: starEach [.Name (Str.ofString n.nm) p1] X.env := by rfl) (hs2 : starEach [.Name (Str.ofString n.nm) p1] X.env = (false, eval (.Name (Str.ofString n.nm) p1) X.env) :: starEach [] X.env := by rfl)
    (hpl : (backTo pos (starEach [.Name (Str.ofString n.nm) p1] X.env)).any (·.1) = false := by rfl) :
    ZE X G B (.Call (.Name "isinstance" p) [e, .Name (Str.ofString n.nm) p1] [] pos) (zIsi n t) := by
  obtain ⟨te, pt, z⟩ := z_n he
  refine ⟨_, pe_callB call_isi hg hm hv (pa_cons pt (pa_cons (pe_bltn (v := .ty n.nm) hg2 hm2 hv2 rfl hn2 hd2) pa_nil hs2) hs1) (by decide) (by decide) hs1 hpl, fun σ H ss Q R S hw fin => ?_⟩
  refine z σ H ss _ _ S hw fun v H1 r s1 k1 rr q => ?_
  cases e1 : cv s1 r with
  | none => simp only [e1] at q
  | some d =>
    simp only [e1] at q
    cases e2 : d.isA n with
    | none => simp only [e2] at q
    | some b =>
      simp only [e2] at q
      obtain ⟨s, h1, h2⟩ := isA_kit e2
      exact ⟨v, .ty n.nm, .type s, .type n.nm, b, rfl, .ty _, (cv_vr rr.sem (Kp.refl _) rr e1).tyx h1, kit_ty h2, fin _ H1 _ s1 k1 (.d' rr.sem (.bl b)) q⟩
/-! ## methods that change a list of a name -/
abbrev ZMt := List D → List D → (D → List D → Prop) → Prop
/-- the rule of a method: content, arguments; result, content behind it -/
def MtZ (X : Cx) (id : String) (z : ZMt) : Prop := ∃ r, MtR X id r ∧ ∀ (G : Addr → Prop) (H : Hp) (l : Addr) (xs vs : List V) (ds es : List D) (Q : D → List D → Prop) (R : VK), H l = some (.lst xs) → DRs X.K G H xs ds → DRs X.K G H vs es → z ds es Q →
  (∀ v d xs' ds', DR X.K G H v d → DRs X.K G H xs' ds' → Q d ds' → R v (upd H l (.lst xs'))) → r (.ref l) vs H R
def zMet (z : ZMt) (i : Nat) (ts : ZTDs) : ZT := fun ss Q => match ss[i]? with
  | some (some (.lst _)) => ts ss fun es s => match s[i]? with
    | some (some (.lst ds)) => z ds es fun d ds' => fc (s.set i (some (.lst ds'))) fun s' => Q (.d d) s'
    | _ => False
  | _ => False
theorem z_met (i : Nat) {x name : Str} {id : String} {z : ZMt} {ts : ZTDs} {np : Pos} (hz : MtZ X id z) (pa : PlainAttrs "list") (slot : Slot "list" name id) (hty : typeOf (.builtin id) = pure (.type "method_descriptor")) (ha : ZDs X G B (e :: es) ts)
    (hN : X.N[i]? = some x := by rfl) (hv : Vis X.env.scope x := by first | exact Or.inl rfl | exact Or.inr (Or.inl rfl) | exact Or.inr (Or.inr rfl)) (hd : (x == ("__debug__" : Str)) = false := by decide) (hcd : (x == ("__classdict__" : Str)) = false := by decide)
    (hbase : attributeBase (.Name x np) name X.env (eval (.Name x np) X.env) = eval (.Name x np) X.env := by rfl)
    (hfew : ((backTo cpos (starEach (e :: es) X.env)).all (fun x => !x.1) && (backToKw cpos (keywordEach [] X.env)).all (fun x => x.1.isSome)
      && decide ((e :: es).length + ([] : List Keyword).length + (if ([] : List Keyword).isEmpty then 0 else 1) < 30)) = true := by rfl)
    (hline : (apos.endLine == cpos.line) = true := by rfl) (hs : starEach (e :: es) X.env = (false, eval e X.env) :: starEach es X.env := by rfl) (hplain : (backTo cpos (starEach es X.env)).any (·.1) = false := by rfl) :
    ZE X G B (.Call (.Attribute (.Name x np) name apos) (e :: es) [] cpos) (zMet z i ts) := by
  obtain ⟨r, h1, h2⟩ := hz
  obtain ⟨te, pt, rz⟩ := ha
  refine ⟨_, pe_bm pa slot hty h1 (pe_var hN hv hd hcd) pt hbase hfew hline hs hplain, fun σ H ss Q R S hw fin => ?_⟩
  unfold zMet at hw
  cases es1 : ss[i]? with
  | none => simp only [es1] at hw
  | some oo =>
    cases oo with
    | none => simp only [es1] at hw
    | some oc =>
      cases oc with
      | lst ds0 =>
        simp only [es1] at hw
        obtain ⟨a0, xs0, hv0, ha0, rs0⟩ := S.list es1
        refine ⟨.ref a0, hv0, Or.inl ⟨rfl, xs0, SqL.of ha0⟩, ?_⟩
        refine rz σ H ss _ _ S hw fun vs H1 ds1 s1 k1 S1 rs1 q => ?_
        cases es2 : s1[i]? with
        | none => simp only [es2] at q
        | some oo =>
          cases oo with
          | none => simp only [es2] at q
          | some oc =>
            cases oc with
            | lst ds =>
              simp only [es2] at q
              obtain ⟨a, xs, hva, haa, rsa, up⟩ := S1.wr es2
              rw [hv0] at hva; cases hva
              refine h2 G H1 a0 xs vs ds ds1 _ _ haa rsa rs1 q fun v d xs' ds' rd rds q2 => ?_
              have kk : Kp H1 (upd H1 a0 (.lst xs')) := Kp.upd haa trivial
              exact fin v _ (.d d) _ (k1.trans kk) (.d' (up xs' ds' rds) (rd.kp kk)) ((fc_iff _ _).mp q2)
            | _ => simp only [es2] at q
      | _ => simp only [es1] at hw
theorem z_met0 (i : Nat) {x name : Str} {id : String} {z : ZMt} {np : Pos} (hz : MtZ X id z) (pa : PlainAttrs "list") (slot : Slot "list" name id) (hty : typeOf (.builtin id) = pure (.type "method_descriptor"))
    (hN : X.N[i]? = some x := by rfl) (hv : Vis X.env.scope x := by first | exact Or.inl rfl | exact Or.inr (Or.inl rfl) | exact Or.inr (Or.inr rfl)) (hd : (x == ("__debug__" : Str)) = false := by decide) (hcd : (x == ("__classdict__" : Str)) = false := by decide)
    (hbase : attributeBase (.Name x np) name X.env (eval (.Name x np) X.env) = eval (.Name x np) X.env := by rfl) (hline : (apos.endLine == cpos.line) = true := by rfl) :
    ZE X G B (.Call (.Attribute (.Name x np) name apos) [] [] cpos) (zMet z i zdNil) := by
  obtain ⟨r, h1, h2⟩ := hz
  refine ⟨_, pe_bm0 pa slot hty h1 (pe_var hN hv hd hcd) hbase hline, fun σ H ss Q R S hw fin => ?_⟩
  unfold zMet at hw
  cases es1 : ss[i]? with
  | none => simp only [es1] at hw
  | some oo =>
    cases oo with
    | none => simp only [es1] at hw
    | some oc =>
      cases oc with
      | lst ds0 =>
        simp only [es1] at hw
        obtain ⟨a0, xs0, hv0, ha0, rs0, up⟩ := S.wr es1
        refine ⟨.ref a0, hv0, Or.inl ⟨rfl, xs0, SqL.of ha0⟩, ?_⟩
        have q : z ds0 [] fun d ds' => fc (ss.set i (some (.lst ds'))) fun s' => Q (.d d) s' := by
          have : zdNil ss fun es s => (match s[i]? with
            | some (some (.lst ds)) => z ds es fun d ds' => fc (s.set i (some (.lst ds'))) fun s' => Q (.d d) s'
            | _ => False) := hw
          unfold zdNil at this
          simp only [es1] at this
          exact this
        refine h2 G H a0 xs0 [] ds0 [] _ _ ha0 rs0 .nil q fun v d xs' ds' rd rds q2 => ?_
        have kk : Kp H (upd H a0 (.lst xs')) := Kp.upd ha0 trivial
        exact fin v _ (.d d) _ kk (.d' (up xs' ds' rds) (rd.kp kk)) ((fc_iff _ _).mp q2)
      | _ => simp only [es1] at hw
def zAppendC : ZMt := fun ds es Q => match es with
  | [d] => Sd (ds.length < sizeLine) ∧ Q .non (ds ++ [d])
  | _ => False
theorem mz_append : MtZ X "list.append" zAppendC := by
  refine ⟨_, mt_append, fun G H l xs vs ds es Q R hl rx rv q fin => ?_⟩
  match es, rv, q with
  | [d], .cons r .nil, q => exact ⟨l, xs, _, rfl, rfl, hl, by rw [rx.length]; exact q.1.h, fin _ _ _ _ .non (rx.append (.cons r .nil)) q.2⟩
theorem DRs.dropLast {K : Frag} {H : Hp} {ds : List D} {vs : List V} (h : DRs K G H vs ds) : DRs K G H vs.dropLast ds.dropLast := by
  rw [List.dropLast_eq_take, List.dropLast_eq_take, h.length]; exact h.take _
theorem DRs.eraseIdx {K : Frag} {H : Hp} : ∀ {ds : List D} {vs : List V} (n : Nat), DRs K G H vs ds → DRs K G H (vs.eraseIdx n) (ds.eraseIdx n)
  | [], _, _, h => by cases h; exact .nil
  | d :: ds, _, 0, h => by cases h with | cons a b => exact b
  | d :: ds, _, n + 1, h => by cases h with | cons a b => exact .cons a (DRs.eraseIdx n b)
theorem DRs.reverse {K : Frag} {H : Hp} : ∀ {ds : List D} {vs : List V}, DRs K G H vs ds → DRs K G H vs.reverse ds.reverse
  | [], _, h => by cases h; exact .nil
  | d :: ds, _, h => by
    cases h with | cons a b =>
    rw [List.reverse_cons, List.reverse_cons]
    exact (DRs.reverse b).append (.cons a .nil)
def zPopC : ZMt := fun ds es Q => match es with
  | [] => ∃ d, ds[ds.length - 1]? = some d ∧ Q d ds.dropLast
  | [.int i] => Sd (-(2 ^ 63) ≤ i ∧ i < 2 ^ 63) ∧ ∃ (k : Nat) (d : D), Sd (seqIndex? i ds.length = some k) ∧ ds[k]? = some d ∧ Q d (ds.eraseIdx k)
  | _ => False
theorem mz_pop : MtZ X "list.pop" zPopC := by
  refine ⟨_, MtR.or (X := X) mt_pop mt_popAt, fun G H l xs vs ds es Q R hl rx rv q fin => ?_⟩
  match es, rv, q with
  | [], .nil, q =>
    obtain ⟨d, h1, q⟩ := q
    obtain ⟨v, h2, rd⟩ := rx.get h1
    exact .inl ⟨l, xs, v, rfl, rfl, hl, by rw [rx.length]; exact h2, fin _ _ _ _ rd rx.dropLast q⟩
  | [.int i], .cons r .nil, q =>
    cases r
    obtain ⟨h0, k, d, hk, h1, q⟩ := q
    obtain ⟨v, h2, rd⟩ := rx.get h1
    exact .inr ⟨l, xs, i, k, v, rfl, rfl, hl, h0.h.1, h0.h.2, by rw [rx.length]; exact hk.h, h2, fin _ _ _ _ rd (rx.eraseIdx k) q⟩
def zRevC : ZMt := fun ds es Q => match es with
  | [] => Q .non ds.reverse
  | _ => False
theorem mz_reverse : MtZ X "list.reverse" zRevC := by
  refine ⟨_, mt_reverse, fun G H l xs vs ds es Q R hl rx rv q fin => ?_⟩
  match es, rv, q with
  | [], .nil, q => exact ⟨l, xs, rfl, rfl, hl, fin _ _ _ _ .non rx.reverse q⟩
def zClrC : ZMt := fun ds es Q => match es with
  | [] => Q .non []
  | _ => False
theorem mz_clear : MtZ X "list.clear" zClrC := by
  refine ⟨_, mt_clear, fun G H l xs vs ds es Q R hl rx rv q fin => ?_⟩
  match es, rv, q with
  | [], .nil, q => exact ⟨l, xs, rfl, rfl, hl, fin _ _ _ _ .non .nil q⟩
/-! ## in -/
def D.flat : D → Bool
  | .non => true | .bl _ => true | .int _ => true | .str _ => true
  | _ => false
theorem flat_v {K : Frag} {H : Hp} {v : V} {d : D} (h : VR K G H v d) (f : d.flat = true) : flatV v = true := by
  cases d with
  | non => obtain rfl := h.n; rfl
  | bl b => obtain rfl := h.b; rfl
  | int b => obtain rfl := h.i; rfl
  | str b => obtain rfl := h.s; rfl
  | _ => cases f
theorem eqV_eq {K : Frag} {H : Hp} {v w : V} {d e : D} (h : VR K G H v d) (h2 : VR K G H w e) (f : d.flat = true) (f2 : e.flat = true) : eqV v w = D.eq d e := by
  cases d with
  | non => obtain rfl := h.n; cases e with
    | non => obtain rfl := h2.n; rfl
    | bl b => obtain rfl := h2.b; rfl
    | int b => obtain rfl := h2.i; rfl
    | str b => obtain rfl := h2.s; rfl
    | _ => cases f2
  | bl b => obtain rfl := h.b; cases e with
    | non => obtain rfl := h2.n; rfl
    | bl b => obtain rfl := h2.b; rfl
    | int b => obtain rfl := h2.i; rfl
    | str b => obtain rfl := h2.s; rfl
    | _ => cases f2
  | int b => obtain rfl := h.i; cases e with
    | non => obtain rfl := h2.n; rfl
    | bl b => obtain rfl := h2.b; rfl
    | int b => obtain rfl := h2.i; simp [eqV, D.eq, Bool.beq_eq_decide_eq]
    | str b => obtain rfl := h2.s; rfl
    | _ => cases f2
  | str b => obtain rfl := h.s; cases e with
    | non => obtain rfl := h2.n; rfl
    | bl b => obtain rfl := h2.b; rfl
    | int b => obtain rfl := h2.i; rfl
    | str b => obtain rfl := h2.s; simp [eqV, D.eq, Bool.beq_eq_decide_eq]
    | _ => cases f2
  | _ => cases f
theorem inV_eq {K : Frag} {H : Hp} {x : V} {d : D} (hx : VR K G H x d) (fx : d.flat = true) : ∀ {ds : List D} {vs : List V}, DRs K G H vs ds → ds.all D.flat = true → vs.all flatV = true ∧ inV x vs = ds.any fun y => D.eq y d
  | [], _, h, _ => by cases h; exact ⟨rfl, rfl⟩
  | e :: ds, _, h, f => by
    rw [List.all_cons, Bool.and_eq_true] at f
    cases h with
    | cons a b =>
      obtain ⟨h1, h2⟩ := inV_eq hx fx b f.2
      refine ⟨by rw [List.all_cons, flat_v (.d a) f.1, h1]; rfl, ?_⟩
      unfold inV at h2 ⊢
      rw [List.any_cons, List.any_cons, h2, eqV_eq (.d a) hx f.1 fx]
def zInC (neg : Bool) : Z2 := fun x y Q => match y with
  | .lst _ ds => Sd (x.flat = true ∧ ds.all D.flat = true) ∧ match neg with
    | true => Q (.d (.bl (!(ds.any fun y => D.eq y x))))
    | false => Q (.d (.bl (ds.any fun y => D.eq y x)))
  | .tup ds => Sd (x.flat = true ∧ ds.all D.flat = true) ∧ match neg with
    | true => Q (.d (.bl (!(ds.any fun y => D.eq y x))))
    | false => Q (.d (.bl (ds.any fun y => D.eq y x)))
  | .str z => ∃ (c : Nat), x = .str ⟨#[c]⟩ ∧ match neg with
    | true => Q (.d (.bl (!decide (c ∈ z.cps.toList))))
    | false => Q (.d (.bl (decide (c ∈ z.cps.toList))))
  | _ => False
theorem oz_in : OpZ X (compareOp .In) (zInC false) := by
  refine ⟨_, op_in_seq.or op_in_sign, fun G H x y dx dy Q R hx hy q fin => ?_⟩
  unfold zInC at q
  cases dy with
  | lst m ds =>
    obtain ⟨⟨h1, h2⟩, q⟩ := q
    obtain ⟨a, xs, rfl, hq, r⟩ := hy.sq
    obtain ⟨f1, f2⟩ := inV_eq hx h1 r h2
    exact .inl ⟨a, xs, rfl, .inl hq, flat_v hx h1, f1, by rw [f2]; exact fin _ H _ (rs_d (.bl _)) q⟩
  | tup ds =>
    obtain ⟨⟨h1, h2⟩, q⟩ := q
    obtain ⟨a, xs, rfl, hq, r⟩ := hy.tq
    obtain ⟨f1, f2⟩ := inV_eq hx h1 r h2
    exact .inl ⟨a, xs, rfl, .inr hq, flat_v hx h1, f1, by rw [f2]; exact fin _ H _ (rs_d (.bl _)) q⟩
  | str z =>
    obtain ⟨c, rfl, q⟩ := q
    obtain rfl := hx.s
    obtain rfl := hy.s
    exact .inr ⟨c, z, rfl, rfl, fin _ H _ (rs_d (.bl _)) q⟩
  | _ => exact q.elim
theorem oz_notin : OpZ X (compareOp .NotIn) (zInC true) := by
  refine ⟨_, op_notIn_seq.or op_notIn_sign, fun G H x y dx dy Q R hx hy q fin => ?_⟩
  unfold zInC at q
  cases dy with
  | lst m ds =>
    obtain ⟨⟨h1, h2⟩, q⟩ := q
    obtain ⟨a, xs, rfl, hq, r⟩ := hy.sq
    obtain ⟨f1, f2⟩ := inV_eq hx h1 r h2
    exact .inl ⟨a, xs, rfl, .inl hq, flat_v hx h1, f1, by rw [f2]; exact fin _ H _ (rs_d (.bl _)) q⟩
  | tup ds =>
    obtain ⟨⟨h1, h2⟩, q⟩ := q
    obtain ⟨a, xs, rfl, hq, r⟩ := hy.tq
    obtain ⟨f1, f2⟩ := inV_eq hx h1 r h2
    exact .inl ⟨a, xs, rfl, .inr hq, flat_v hx h1, f1, by rw [f2]; exact fin _ H _ (rs_d (.bl _)) q⟩
  | str z =>
    obtain ⟨c, rfl, q⟩ := q
    obtain rfl := hx.s
    obtain rfl := hy.s
    exact .inr ⟨c, z, rfl, rfl, fin _ H _ (rs_d (.bl _)) q⟩
  | _ => exact q.elim
/-! ## xs[::-1] -/
def zRevS (t : ZT) : ZT := fun ss Q => zN t ss fun r s => match cv s r with
  | some (.lst _ xs) => Q (.new (.lst xs.reverse)) s
  | _ => False
theorem z_revS {kk : Nat} {p1 p2 p3 : Pos} (he : ZE X G B e t) : ZE X G B (.Subscript e (.Slice none none (some (.UnaryOp .USub (.Constant (.int 1) kk p1) p2)) p3) pos) (zRevS t) := by
  obtain ⟨te, pt, z⟩ := z_n he
  refine ⟨_, pe_revL pt, fun σ H ss Q R S hw fin => ?_⟩
  refine z σ H ss _ _ S hw fun v H1 r s1 k1 rr q => ?_
  cases e1 : cv s1 r with
  | none => simp only [e1] at q
  | some d =>
    cases d with
    | lst m xs =>
      simp only [e1] at q
      obtain ⟨a, ws, rfl, hq, rs⟩ := (cv_vr rr.sem (Kp.refl _) rr e1).sq
      refine ⟨a, ws, rfl, hq, fun p np => ?_⟩
      have rn := rs_new (X := X) np rs.reverse
      exact fin _ _ _ s1 (k1.trans (Kp.of rn.same)) (rn.rr rr.sem) q
    | _ => simp only [e1] at q
/-! ## -x -/
def zNeg (t : ZT) : ZT := fun ss Q => t ss fun r s => match r with
  | .d (.int i) => Q (.d (.int (-i))) s
  | _ => False
theorem z_neg (he : ZE X G B e t) : ZE X G B (.UnaryOp .USub e pos) (zNeg t) := by
  obtain ⟨te, pt, z⟩ := he
  refine ⟨_, pe_un un_neg pt, fun σ H ss Q R S hw fin => ?_⟩
  refine z σ H ss _ _ S hw fun v H1 r s1 k1 rr q => ?_
  cases r with
  | d x =>
    cases x with
    | int i =>
      obtain ⟨S1, r⟩ := rr
      cases r
      exact ⟨i, rfl, fin _ H1 _ s1 k1 (.d' S1 (.int _)) q⟩
    | _ => exact q.elim
  | _ => exact q.elim
/-! ## a op b op' c -/
def zChain (z z' : Z2) (ta tb tc : ZT) : ZT := fun ss Q => ta ss fun ra s1 => tb s1 fun rb s2 => match cv s2 ra, cv s2 rb with
  | some x, some y => z x y fun r => match r with
    | .d (.bl b) => Br b (tc s2 fun rc s3 => match cv s3 rb, cv s3 rc with
        | some y', some w => z' y' w fun r => Q r s3
        | _, _ => False) (Q (.d (.bl false)) s2)
    | _ => False
  | _, _ => False
theorem chain_zr {K : Frag} {tea teb tec : TE} {r r' : R2} {z z' : Z2} {tc : ZT} (ha : Zr K G B tea ta) (hb : Zr K G B teb tb) (hc : Zr K G B tec tc)
    (hr : ∀ (G : Addr → Prop) (H : Hp) (x y : V) (dx dy : D) (Q : RV → Prop) (R : VK), VR K G H x dx → VR K G H y dy → z dx dy Q → (∀ v H' rv, RS K G H H' v rv → Q rv → R v H') → r x y H R)
    (hr' : ∀ (G : Addr → Prop) (H : Hp) (x y : V) (dx dy : D) (Q : RV → Prop) (R : VK), VR K G H x dx → VR K G H y dy → z' dx dy Q → (∀ v H' rv, RS K G H H' v rv → Q rv → R v H') → r' x y H R) : Zr K G B (tChain r r' tea teb tec) (zChain z z' ta tb tc) := by
  intro σ H ss Q R S hw fin
  refine ha σ H ss _ _ S hw fun v H1 ra s1 k1 rr1 q1 => ?_
  refine hb σ H1 s1 _ _ rr1.sem q1 fun w H2 rb s2 k2 rr2 q2 => ?_
  cases ea : cv s2 ra with
  | none => simp only [ea] at q2
  | some x =>
    cases eb : cv s2 rb with
    | none => simp only [ea, eb] at q2
    | some y =>
      simp only [ea, eb] at q2
      refine hr G H2 v w x y _ _ (cv_vr rr2.sem k2 rr1 ea) (cv_vr rr2.sem (Kp.refl _) rr2 eb) q2 fun u H3 rv rs q3 => ?_
      cases rv with
      | d b0 =>
        cases b0 with
        | bl b =>
          obtain ⟨sm, rb0⟩ := rs
          cases rb0
          have S3 := rr2.sem.same sm
          refine ⟨b, rfl, ?_⟩
          cases b with
          | false => rw [if_neg Bool.false_ne_true]; exact fin _ H3 _ s2 ((k1.trans k2).trans (Kp.of sm)) (.d' S3 (.bl false)) (q3.f rfl)
          | true =>
            rw [if_pos rfl]
            refine hc σ H3 s2 _ _ S3 (q3.t rfl) fun w' H4 rc s4 k4 rr4 q4 => ?_
            cases ey : cv s4 rb with
            | none => simp only [ey] at q4
            | some y' =>
              cases ew : cv s4 rc with
              | none => simp only [ey, ew] at q4
              | some ww =>
                simp only [ey, ew] at q4
                refine hr' G H4 w w' y' ww _ _ (cv_vr rr4.sem ((Kp.of sm).trans k4) rr2 ey) (cv_vr rr4.sem (Kp.refl _) rr4 ew) q4 fun u5 H5 rv5 rs5 q5 => ?_
                exact fin u5 H5 rv5 s4 ((((k1.trans k2).trans (Kp.of sm)).trans k4).trans (Kp.of rs5.same)) (rs5.rr rr4.sem) q5
        | _ => exact q3.elim
      | _ => exact q3.elim
theorem z_chain {c : Expr} {op op' : CmpOp} {z z' : Z2} {tc : ZT} (ho : OpZ X (compareOp op) z) (ho' : OpZ X (compareOp op') z') (ha : ZE X G B a ta) (hb : ZE X G B b tb) (hc : ZE X G B c tc) (hm : lastMarks [op, op'] [b, c] = false := by with_unfolding_all rfl) :
    ZE X G B (.Compare a [op, op'] [b, c] pos) (zChain z z' ta tb tc) := by
  obtain ⟨r, h1, h2⟩ := ho
  obtain ⟨r', h1', h2'⟩ := ho'
  obtain ⟨tea, pa, za⟩ := ha
  obtain ⟨teb, pb, zb⟩ := hb
  obtain ⟨tec, pc, zc⟩ := hc
  exact ⟨_, pe_chain h1 h1' pa pb pc hm, chain_zr za zb zc h2 h2'⟩
theorem t_chain {c : Expr} {op op' : CmpOp} {z z' : Z2} {tc : ZT} (ho : OpZ X (compareOp op) z) (ho' : OpZ X (compareOp op') z') (ha : ZE X G B a ta) (hb : ZE X G B b tb) (hc : ZE X G B c tc) (hm : lastMarks [op, op'] [b, c] = false := by with_unfolding_all rfl) :
    ZB X G B (.Compare a [op, op'] [b, c] pos) (zT (zChain z z' ta tb tc)) := by
  obtain ⟨r, h1, h2⟩ := ho
  obtain ⟨r', h1', h2'⟩ := ho'
  obtain ⟨tea, pa, za⟩ := ha
  obtain ⟨teb, pb, zb⟩ := hb
  obtain ⟨tec, pc, zc⟩ := hc
  exact ⟨_, pt_chain h1 h1' pa pb pc hm, zt_of (chain_zr za zb zc h2 h2')⟩
end

theorem Br.lT {b : Bool} {A C : Prop} (e : b = true) (h : A) : Br b A C := by subst e; exact Br.T h
theorem Br.lF {b : Bool} {A C : Prop} (e : b = false) (h : C) : Br b A C := by subst e; exact Br.F h
theorem Br.nT {A C : Prop} (h : A) : Br (!false) A C := Br.T h
theorem Br.nF {A C : Prop} (h : C) : Br (!true) A C := Br.F h
/-! ## numbers -/
theorem log2_of {i : Int} {n : Nat} (a : 0 ≤ i) (b : i < 2 ^ n) : i.natAbs.log2 ≤ n := by
  have e : i.natAbs < 2 ^ n := by
    have : ((i.natAbs : Nat) : Int) = i := Int.natAbs_of_nonneg a
    have h2 : (((2 : Nat) ^ n : Nat) : Int) = (2 : Int) ^ n := by simp
    omega
  by_cases z : i.natAbs = 0
  · rw [z]; exact Nat.zero_le _
  · exact Nat.le_of_lt ((Nat.log2_lt z).mpr e)
theorem mulW {i j : Int} (n m : Nat) (a : 0 ≤ i) (b : i < 2 ^ n) (c : 0 ≤ j) (d : j < 2 ^ m) (h : n + m < 1000000 := by decide) : CMulW i j := by
  have h1 := log2_of a b
  have h2 := log2_of c d
  refine .inl ?_; unfold L2.CMulW; omega
theorem mul_lt {i j : Int} (n m : Nat) (a : 0 ≤ i) (b : i < 2 ^ n) (c : 0 ≤ j) (d : j < 2 ^ m) : 0 ≤ i * j ∧ i * j < 2 ^ (n + m) := by
  refine ⟨Int.mul_nonneg a c, ?_⟩
  rw [Int.pow_add]
  exact Int.lt_of_le_of_lt (Int.mul_le_mul_of_nonneg_left (Int.le_of_lt d) a) (Int.mul_lt_mul_of_pos_right b (Int.pow_pos (by decide)))
theorem divW {j : Int} {i : Int} (h : 0 < j) (h2 : j < 2 ^ 8000) : CDivW i j := ⟨h, Nat.lt_of_le_of_lt (log2_of (by omega) h2) (by decide)⟩
theorem mulB {i j : Int} (a : i.natAbs < 2 ^ 100) (b : j.natAbs < 2 ^ 100) : CMulW i j := by
  have h : ∀ n : Nat, n < 2 ^ 100 → n.log2 ≤ 100 := fun n e => by
    by_cases z : n = 0
    · rw [z]; exact Nat.zero_le _
    · exact Nat.le_of_lt ((Nat.log2_lt z).mpr e)
  have h1 := h _ a
  have h2 := h _ b
  refine .inl ?_; unfold L2.CMulW; omega
theorem ixN_in {n : Nat} {i : Int} (h0 : 0 ≤ i) (h1 : i < n) : ixN n i = some i.toNat := by unfold ixN; rw [if_pos h0, if_pos h1]
theorem atI_in {α : Type} {xs : List α} {i : Int} (h0 : 0 ≤ i) (h1 : i < xs.length) : ∃ h : i.toNat < xs.length, atI xs i = some (xs[i.toNat]) := by
  have : i.toNat < xs.length := by omega
  refine ⟨this, ?_⟩
  unfold atI; rw [ixN_in h0 h1]
  exact List.getElem?_eq_getElem this
theorem at_int {ns : List Int} {i : Int} (h0 : 0 ≤ i) (h1 : i < ns.length) : ∃ v, atI (ns.map D.int) i = some (D.int v) := by
  obtain ⟨h, e⟩ := atI_in (xs := ns.map D.int) h0 (by rw [List.length_map]; exact h1)
  exact ⟨ns[i.toNat]'(by rw [List.length_map] at h; exact h), by rw [e]; simp⟩
theorem pow_le2 {n m : Nat} (h : n ≤ m) : (2 : Int) ^ n ≤ 2 ^ m := by
  have h2 : ((2 ^ n : Nat) : Int) ≤ ((2 ^ m : Nat) : Int) := Int.ofNat_le.mpr (Nat.pow_le_pow_right (by decide) h)
  simpa using h2
theorem divS {i j : Int} (h : 0 < j) (h2 : j < 2 ^ 64) : CDivW i j := divW h (Int.lt_of_lt_of_le h2 (pow_le2 (by decide)))
/-! ## lists of whole numbers -/
theorem eqs_ints : ∀ ns ms : List Int, D.eqs (ns.map D.int) (ms.map D.int) = decide (ns = ms)
  | [], [] => rfl
  | [], _ :: _ => rfl
  | _ :: _, [] => rfl
  | n :: ns, m :: ms => by
    show (decide (n = m) && D.eqs (ns.map D.int) (ms.map D.int)) = _
    rw [eqs_ints ns ms]
    simp
theorem pls_ints (k : Nat) : ∀ ns : List Int, D.pls k (ns.map D.int) = true
  | [] => by cases k <;> rfl
  | n :: ns => by
    show (D.pl k (.int n) && D.pls k (ns.map D.int)) = true
    rw [pls_ints k ns]; cases k <;> rfl
theorem cut_map {α β : Type} (f : α → β) (l : List α) (lo hi : Option Int) : cutD (l.map f) lo hi = (cutD l lo hi).map f := by
  unfold cutD; rw [List.length_map, List.map_take, List.map_drop]
theorem cut_lo {α : Type} (l : List α) (k : Nat) : cutD l (some (k : Int)) none = l.drop k := by
  unfold cutD
  rw [HT.sIx_nat, HT.sIx_none]
  rw [List.take_of_length_le (by rw [List.length_drop]; omega)]
  by_cases h : k ≤ l.length
  · rw [Nat.min_eq_left h]
  · rw [Nat.min_eq_right (by omega), List.drop_length, List.drop_eq_nil_of_le (by omega)]
theorem cut_hi {α : Type} (l : List α) (k : Nat) : cutD l none (some (k : Int)) = l.take k := by
  unfold cutD
  rw [HT.sIx_nat, HT.sIx_none, List.drop_zero, Nat.sub_zero]
  by_cases h : k ≤ l.length
  · rw [Nat.min_eq_left h]
  · rw [Nat.min_eq_right (by omega), List.take_length, List.take_of_length_le (by omega)]
theorem cut_len {α : Type} (l : List α) (lo hi : Option Int) : (cutD l lo hi).length ≤ l.length := by
  unfold cutD; rw [List.length_take, List.length_drop]; omega
theorem cut_mem {α : Type} {l : List α} {lo hi : Option Int} {x : α} (h : x ∈ cutD l lo hi) : x ∈ l := List.mem_of_mem_drop (List.mem_of_mem_take h)
/-! ## the head of a law, the defs of the top -/
structure DefAt (K : Frag) (mg : Str → Option Value) (x : Str) (st : Stmt) (ps : List Str) (f : Addr) (fd : FuncData) : Prop where
  F : Fun K x x st f fd
  m : mg x = some (.ref f)
  b : Binds K fd ps []
  bt : ∀ (s : Shared) (us : List Value), us.length = ps.length → BindsTo s fd ⟨us, []⟩ (ps.zip us)
theorem def_at {K : Frag} {h : Heap} {mg : Str → Option Value} {x : Str} {st : Stmt} {ps : List Str} {f : Addr} {oc : Value} {od an : Option Addr} {osl : Array (Option Value)} {kV doc pm cdv ct : Value} (X : K.In h) (G : h.Ns mainGlobals mg)
    (hb : ∀ (kV doc pm : Value) (an : Option Addr) (cdv ct : Value) (us : List Value), us.length = ps.length → bindArgs (PySem.W.fnOf x x (defArgs st) (defBody st) (defScope st) .none kV doc pm an cdv ct) ⟨us, []⟩ = pure (ps.zip us))
    (a : PySem.W.nsIn K mainGlobals x = some (some (.ref f))) (l : K.lookup f = some ⟨oc, od, .func (PySem.W.fnOf x x (defArgs st) (defBody st) (defScope st) .none kV doc pm an cdv ct), osl⟩)
    (c : PySem.W.codeIn K cdv x = true) (k : PySem.W.keepIn K (.ref f) = true) : ∃ f fd, DefAt K mg x st ps f fd :=
  ⟨f, _, fun_mk l c k, PySem.W.mg_of X G a, (fun_mk (st := st) l c k).binds hb, fun s us e => .of_eq (hb _ _ _ _ _ _ us e)⟩
theorem ints_DR {K : Frag} {G : Addr → Prop} {H : Hp} : ∀ ns : List Int, DRs K G H (ns.map V.int) (ns.map D.int)
  | [] => .nil
  | n :: ns => .cons (.int n) (ints_DR ns)
theorem law_sp {K : Frag} {fs : FS} {H : Hp} {a : Addr} {ns : List Int} (h : ∀ m : Nat, m = 0 ∨ m = 2 → ∀ Q E, Q (.d (.bl true)) → fs [.lst m (ns.map .int)] Q E) (hO : Only H) (hS : SqL K H a (ns.map V.int)) :
    toSp K fs [.ref a] H (fun v _ => v = .bl true) fun _ _ _ => False := by
  have key : ∃ m : Nat, (m = 0 ∨ m = 2) ∧ DR K (fun _ => False) H (.ref a) (.lst m (ns.map .int)) := by
    rcases hS with (q | ⟨o, q⟩) | q
    · rcases hO a with e | ⟨o, xs, e⟩ <;> rw [q] at e <;> cases e
    · exact ⟨0, .inl rfl, .lst0 q (fun z => z) (ints_DR ns)⟩
    · exact ⟨2, .inr rfl, .lst2 q (ints_DR ns)⟩
  obtain ⟨m, hm, r⟩ := key
  refine ⟨fun _ => False, [.lst m (ns.map .int)], fun r => r = .d (.bl true), fun _ _ _ => False, fun _ z => z.elim, .cons r .nil, h m hm _ _ rfl, fun v H' r rr e => ?_, fun _ _ _ _ _ _ _ _ z => z⟩
  subst e
  cases rr.2; rfl
theorem law_cx {P : Program} {w : World} {H : Hp} {s s' : Shared} {e : Value} (h : L2.CX P w [] H s (fun _ _ _ => False) e s') : False := by
  obtain ⟨_, _, _, _, _, _, _, _, _, _, _, _, h⟩ := h
  exact h

/-! ## a comprehension over a name: what the name owns stays its own -/
def zLcLO (v0 : Nat) (all : List D) (g : ZG1) (tt : ZTB) (t : ZT) (vs : List Nat) (Q : List D → SS → Prop) : List D → List D → SS → Prop
  | [], acc, ss => Sd (ss[v0]? = some (some (.lst all))) ∧ Q acc ss
  | x :: xs, acc, ss => Sd (ss[v0]? = some (some (.lst all))) ∧ g x ss fun s2 => tt s2 fun b s3 => Br b (zF t s3 fun y s4 => Sd (acc.length < sizeLine) ∧ fc (wipS s4 vs) fun s5 => zLcLO v0 all g tt t vs Q xs (acc ++ [y]) s5) (fc (wipS s3 vs) fun s5 => zLcLO v0 all g tt t vs Q xs acc s5)
def zLcV (v0 : Nat) (g : ZG1) (tt : ZTB) (t : ZT) (vs : List Nat) : ZT := fun ss Q => match ss[v0]? with
  | some (some (.lst xs)) => Sd (vs.contains v0 = false) ∧ fc (wipS ss vs) fun s5 => zLcLO v0 xs g tt t vs (fun acc s' => Q (.new (.lst acc)) s') xs [] s5
  | some (some (.pure (.lst _ xs))) => fc (wipS ss vs) fun s5 => zLcL g tt t vs (fun acc s' => Q (.new (.lst acc)) s') xs [] s5
  | some (some (.pure (.tup xs))) => fc (wipS ss vs) fun s5 => zLcL g tt t vs (fun acc s' => Q (.new (.lst acc)) s') xs [] s5
  | some (some (.pure (.str z))) => fc (wipS ss vs) fun s5 => zLcL g tt t vs (fun acc s' => Q (.new (.lst acc)) s') (z.cps.toList.map fun c => D.str ⟨#[c]⟩) [] s5
  | _ => False
section
variable {X : Cx} {G : Addr → Prop} {B : Hp} {Wz : WZ} {k : Nat} {vs : List Nat} {pos : Pos}
theorem zLcLO.ok {v0 : Nat} {all : List D} {g : ZG1} {tt : ZTB} {t : ZT} {Q : List D → SS → Prop} {xs acc : List D} {ss : SS} (h : zLcLO v0 all g tt t vs Q xs acc ss) : ss[v0]? = some (some (.lst all)) := by
  cases xs with
  | nil => exact h.1.h
  | cons x xs => exact h.1.h
theorem zLcLO.next {v0 : Nat} {all : List D} {g : ZG1} {tt : ZTB} {t : ZT} {Q : List D → SS → Prop} {x : D} {xs acc : List D} {ss : SS} (h : zLcLO v0 all g tt t vs Q (x :: xs) acc ss) : g x ss fun s2 => tt s2 fun b s3 => Br b (zF t s3 fun y s4 => Sd (acc.length < sizeLine) ∧ fc (wipS s4 vs) fun s5 => zLcLO v0 all g tt t vs Q xs (acc ++ [y]) s5) (fc (wipS s3 vs) fun s5 => zLcLO v0 all g tt t vs Q xs acc s5) := h.2
theorem zLcLO.stop {v0 : Nat} {all : List D} {g : ZG1} {tt : ZTB} {t : ZT} {Q : List D → SS → Prop} {acc : List D} {ss : SS} (h : zLcLO v0 all g tt t vs Q [] acc ss) : Q acc ss := h.2
theorem wipe_get {σ : St} {v0 : Nat} : ∀ {vs : List Nat}, vs.contains v0 = false → (wipe σ vs)[v0]? = σ[v0]?
  | [], _ => rfl
  | v :: vs, h => by
    simp only [List.contains_cons, Bool.or_eq_false_iff] at h
    show ((wipe σ vs).set v none)[v0]? = _
    have ne : v ≠ v0 := fun e => by subst e; simp at h
    rw [List.getElem?_set_ne ne]
    exact wipe_get h.2
/-- what the name owns, as it stands in a turn -/
theorem stand {K : Frag} {D : Addr} {σ : St} {v0 : Nat} {a0 : Addr} {items : List Z.D} (hv : vs.contains v0 = false) (ha : σ[v0]? = some (some (.ref a0))) {H1 : Hp} {s1 : SS} (S : Sm K G B [D] (wipe σ vs) H1 s1) (e : s1[v0]? = some (some (.lst items))) :
    (∀ i, i < items.length → (Itl K a0).go i H1 ∧ ∀ x H2, (Itl K a0).yld i H1 x H2 → Same H1 H2 ∧ ∃ d, items[i]? = some d ∧ DR K G H2 x d) ∧ ∀ i, items.length ≤ i → (Itl K a0).stop i H1 := by
  obtain ⟨a, xs, e1, e2, r⟩ := S.list e
  rw [wipe_get hv, ha] at e1
  cases e1
  have hq : SqL K H1 a0 xs := .inl (.inl e2)
  refine ⟨fun i hi => ?_, fun i hi => ⟨xs, hq, by rw [r.length]; exact hi⟩⟩
  have hx : i < xs.length := by rw [r.length]; exact hi
  refine ⟨⟨xs, xs[i], hq, List.getElem?_eq_getElem hx⟩, fun x H2 y => ?_⟩
  obtain ⟨e, y⟩ := y
  subst e
  obtain ⟨d, e1, rd⟩ := r.get' (y xs hq)
  exact ⟨Same.refl _, d, e1, rd⟩
theorem lc_zrO {K : Frag} {v0 : Nat} {all : List Z.D} {a0 : Addr} {g : ZG1} {tt : ZTB} {t : ZT} (σ : St) (H : Hp) (ss : SS) (Q : List D → SS → Prop) (R : VK) (S : Sm K G B [] σ H ss) (hv0 : vs.contains v0 = false) (ha0 : σ[v0]? = some (some (.ref a0))) (hw : zLcLO v0 all g tt t vs Q all [] (wipS ss vs))
    (fin : ∀ v H' acc ss', Kp H H' → RR K G B σ H' ss' v (.new (.lst acc)) → Q acc ss' → R v H') : ∀ D, H D = none → ∃ W : Nat → Nat → Hp → Prop, (∃ m, W 0 m (upd H D (.lst []))) ∧ ∀ i m H, W i m H →
  ((Itl K a0).stop i H ∧ R (.ref D) H) ∨ ((Itl K a0).go i H ∧ ∃ Nx : Hp → Prop, (∀ H', Nx H' → ∃ m', m' < m ∧ W (i + 1) m' H') ∧ ∀ x H', (Itl K a0).yld i H x H' → tgOf K G vs g x (wipe σ vs) H' fun σ2 H2 => wipe σ2 vs = wipe σ vs ∧ ttOf K G tt σ2 H2 fun b H3 =>
    if b = true then tFz (teOf K G t) σ2 H3 fun y H4 => ∃ acc, H4 D = some (.lst acc) ∧ acc.length < sizeLine ∧ Nx (upd H4 D (.lst (acc ++ [y]))) else Nx H3) := by
  intro D nD
  obtain ⟨H0, eH0⟩ : ∃ H0, H0 = H := ⟨_, rfl⟩
  subst eH0
  have S0 := S
  have k0 := Kp.refl H0
  obtain ⟨s0, es0⟩ : ∃ s0, s0 = ss := ⟨_, rfl⟩
  subst es0
  have q := hw
  have hst : ∀ {H1 : Hp} {s1 : SS}, Sm K G B [D] (wipe σ vs) H1 s1 → s1[v0]? = some (some (.lst all)) → (∀ i, i < all.length → (Itl K a0).go i H1 ∧ ∀ x H2, (Itl K a0).yld i H1 x H2 → Same H1 H2 ∧ ∃ d, all[i]? = some d ∧ DR K G H2 x d) ∧ ∀ i, all.length ≤ i → (Itl K a0).stop i H1 := fun S e => stand hv0 ha0 S e
  have sm0 : Same H0 (upd H0 D (.lst [])) := fun b o e => by rw [upd_ne (ne_of_none e nD)]; exact e
  have S1 : Sm K G B [D] (wipe σ vs) (upd H0 D (.lst [])) (wipS s0 vs) := (S0.alloc (N := [D]) sm0 fun a ha => by simp at ha; rw [ha]; exact nD).wipN
  refine ⟨fun i m H' => m = all.length - i ∧ i ≤ all.length ∧ ∃ (ss' : SS) (acc : List L2.V) (ds : List Z.D), Kp H0 H' ∧ Sm K G B [D] (wipe σ vs) H' ss' ∧ H' D = some (.lst acc) ∧ DRs K G H' acc ds ∧ zLcLO v0 all g tt t vs Q (all.drop i) ds ss',
    ⟨_, rfl, Nat.zero_le _, _, [], [], Kp.of sm0, S1, upd_same, .nil, by simpa using q⟩, ?_⟩
  rintro i m H1 ⟨rfl, hil, s1, acc, ds, k1, S1, hD, rds, q1⟩
  have st := hst S1 q1.ok
  by_cases hlt : i < all.length
  · obtain ⟨g1, y1⟩ := st.1 i hlt
    have ed : all.drop i = all[i] :: all.drop (i + 1) := (List.getElem_cons_drop hlt).symm
    rw [ed] at q1
    have q1 := q1.next
    refine .inr ⟨g1, fun H' => ∃ (ss' : SS) (acc : List L2.V) (ds : List Z.D), Kp H0 H' ∧ Sm K G B [D] (wipe σ vs) H' ss' ∧ H' D = some (.lst acc) ∧ DRs K G H' acc ds ∧ zLcLO v0 all g tt t vs Q (all.drop (i + 1)) ds ss',
      fun H' h => ⟨all.length - (i + 1), by omega, rfl, hlt, h⟩, fun x H2 y => ?_⟩
    obtain ⟨sm, d, e1, rd⟩ := y1 x H2 y
    have e2 : d = all[i] := by rw [List.getElem?_eq_getElem hlt] at e1; cases e1; rfl
    subst e2
    have hD2 := sm _ _ hD
    have S2 := (S1.same sm).hide hD2
    refine ⟨_, s1, _, _, S2, rd, q1, fun σ3 H3 s3 w3 k3 S3 q3 => ⟨w3.trans (wipe_wipe σ vs), ?_⟩⟩
    refine ⟨_, s3, _, S3, q3, fun b H4 s4 k4 S4 q4 => ?_⟩
    have kk4 : Kp H1 H4 := ((Kp.of sm).trans k3).trans k4
    have ws : ∀ {H' : Hp} {s' : SS}, Sm K G B [D] σ3 H' s' → Sm K G B [D] (wipe σ vs) H' (wipS s' vs) := fun {H' s'} S' => by
      have := S'.wipN (vs := vs)
      rw [w3.trans (wipe_wipe σ vs)] at this; exact this
    have bD : B D = none := S1.nn D (by simp)
    cases b with
    | false =>
      dsimp only
      rw [if_neg Bool.false_ne_true]
      exact ⟨_, acc, ds, k1.trans kk4, ws (S4.shown bD S1.gb), S4.keep D _ upd_same, rds.kp kk4, (fc_iff _ _).mp (q4.f rfl)⟩
    | true =>
      dsimp only
      rw [if_pos rfl]
      have q5 := q4.t rfl
      -- the element, frozen
      have hz : ZrD K G (upd B D (.lst acc)) (tFz (teOf K G t)) (zF t) := by
        intro σ H ss Q R S hw fin
        refine ⟨_, ss, _, S, hw, fun v H' r ss' k rr q => ?_⟩
        cases r with
        | d x => exact .inl (fin v H' x ss' k rr.1 rr.2 q)
        | new o =>
          obtain ⟨as, S', ro, nd⟩ := rr
          cases ef : o.fz with
          | none => simp only [ef] at q
          | some d =>
            simp only [ef] at q
            rcases fz_or S' ro ef with ⟨S2, r2, _⟩ | ⟨a, u, e1, _, e2, mu, q2⟩
            · exact .inl (fin v H' d ss' k S2 r2 q)
            · refine .inr ⟨a, u, e1, e2, mu, fun od => ?_⟩
              obtain ⟨S2, r2, k2⟩ := q2 od
              exact fin v _ d ss' (k.trans k2) S2 r2 q
        | loc i =>
          obtain ⟨S', ev⟩ := rr
          cases es : ss'[i]? with
          | none => simp only [es] at q
          | some oo =>
            cases oo with
            | none => simp only [es] at q
            | some o =>
              cases ef : o.fz with
              | none => simp only [es, ef] at q
              | some d =>
                simp only [es, ef] at q
                obtain ⟨v', as, ev', ro, nd, S2⟩ := S'.take es
                rw [ev] at ev'
                cases ev'
                rcases fz_or S2 ro ef with ⟨S3, r3, _⟩ | ⟨a, u, e1, _, e2, mu, q2⟩
                · refine .inl (fin v H' d _ k ?_ r3 q)
                  have := S3.put ev (.pure r3) List.nodup_nil
                  rw [List.set_set] at this; exact this
                · refine .inr ⟨a, u, e1, e2, mu, fun od => ?_⟩
                  obtain ⟨S3, r3, k2⟩ := q2 od
                  have S4 := S3.put ev (.pure r3) List.nodup_nil
                  rw [List.set_set] at S4
                  exact fin v _ d _ (k.trans k2) S4 r3 q
      refine hz σ3 H4 s4 _ _ S4 q5 fun y H5 d5 s5 k5 S5 r5 q6 => ?_
      have hD5 := S5.keep D _ upd_same
      have S6 := S5.shown bD S1.gb
      obtain ⟨S7, k7⟩ := S6.wrN (ys := acc ++ [y]) hD5
      have kk5 := (kk4.trans k5).trans k7
      exact ⟨acc, hD5, by rw [rds.length]; exact q6.1.h, _, acc ++ [y], ds ++ [d5], k1.trans kk5, ws S7, upd_same, (rds.kp kk5).append (.cons (r5.kp k7) .nil), (fc_iff _ _).mp q6.2⟩
  · have e : i = all.length := by omega
    subst e
    rw [List.drop_length] at q1
    have q1 := q1.stop
    refine .inl ⟨st.2 _ (Nat.le_refl _), ?_⟩
    exact fin (.ref D) H1 ds s1 (k0.trans k1) (show ∃ as, Sm K G B as σ H1 s1 ∧ OR K G H1 (.ref D) (.lst ds) as ∧ as.Nodup from ⟨[D], S1.unwip, .lst hD rds, by simp⟩) q1

/-- what a name holds that owns nothing -/
def ziV (v0 : Nat) : ZTI := fun ss Q => match ss[v0]? with
  | some (some (.pure (.lst _ xs))) => Q xs ss
  | some (some (.pure (.tup xs))) => Q xs ss
  | some (some (.pure (.str z))) => Q (z.cps.toList.map fun c => D.str ⟨#[c]⟩) ss
  | _ => False
theorem ziV_ok {K : Frag} {v0 : Nat} : ZIr K G B (iSeq K (tVar v0)) (ziV v0) := by
  intro σ H ss Q R S hw fin
  unfold ziV at hw
  cases e : ss[v0]? with
  | none => simp only [e] at hw
  | some oo =>
    cases oo with
    | none => simp only [e] at hw
    | some o =>
      cases o with
      | lst xs => simp only [e] at hw
      | ins _ _ _ _ => simp only [e] at hw
      | dct _ _ => simp only [e] at hw
      | pure d =>
        obtain ⟨v, ev, rd⟩ := S.pure e
        refine ⟨v, ev, ?_⟩
        cases d with
        | lst m ds =>
          simp only [e] at hw
          obtain ⟨a, xs, rfl, h1, h2⟩ := rd.lq
          exact .inl ⟨a, rfl, .inl ⟨⟨xs, h1 H (Kp.refl _)⟩, fin _ H ds ss (Kp.refl _) S (itok_list h1 h2) hw⟩⟩
        | tup ds =>
          simp only [e] at hw
          cases rd with
          | @tup a xs _ h1 h2 => exact .inl ⟨a, rfl, .inr ⟨⟨xs, h1⟩, fin _ H ds ss (Kp.refl _) S (itok_tup h1 h2) hw⟩⟩
        | str zz =>
          simp only [e] at hw
          cases rd
          exact .inr ⟨zz, rfl, fin _ H _ ss (Kp.refl _) S (itok_str zz) hw⟩
        | _ => simp only [e] at hw
theorem lcV_zr {K : Frag} {v0 : Nat} {g : ZG1} {tt : ZTB} {t : ZT} (σ : St) (H : Hp) (ss : SS) (Q : RV → SS → Prop) (R : VK) (S : Sm K G B [] σ H ss) (hw : zLcV v0 g tt t vs ss Q)
    (fin : ∀ v H' acc ss', Kp H H' → RR K G B σ H' ss' v (.new (.lst acc)) → Q (.new (.lst acc)) ss' → R v H') : tLc (iSeq K (tVar v0)) (tgOf K G vs g) (ttOf K G tt) (tFz (teOf K G t)) vs σ H R := by
  unfold zLcV at hw
  cases e : ss[v0]? with
  | none => simp only [e] at hw
  | some oo =>
    cases oo with
    | none => simp only [e] at hw
    | some o =>
      cases o with
      | ins _ _ _ _ => simp only [e] at hw
      | dct _ _ => simp only [e] at hw
      | lst xs =>
        simp only [e] at hw
        obtain ⟨a, ws, e1, e2, r⟩ := S.list e
        exact ⟨_, e1, .inl ⟨a, rfl, .inl ⟨⟨ws, .inl (.inl e2)⟩, lc_zrO σ H ss (fun acc s' => Q (.new (.lst acc)) s') R S hw.1.h e1 ((fc_iff _ _).mp hw.2) fin⟩⟩⟩
      | pure d =>
        refine lc_zr (zi := ziV v0) ziV_ok σ H ss (fun acc s' => Q (.new (.lst acc)) s') R S ?_ fin
        unfold zLcQ ziV
        cases d with
        | lst m ds => simp only [e] at hw ⊢; exact hw
        | tup ds => simp only [e] at hw ⊢; exact hw
        | str zz => simp only [e] at hw ⊢; exact hw
        | _ => simp only [e] at hw
theorem z_lcV {v0 : Nat} {x0 : Str} {p0 : Pos} {elt tg : Expr} {ifs : List Expr} {scope : Scope} {own : List (Str × Nat)} {g : ZG1} {tt : ZTB} {t : ZT} (C : Ctx X G B Wz k) (hN0 : X.N[v0]? = some x0 := by rfl) (hvi : Vis X.env.scope x0 := by first | exact Or.inl rfl | exact Or.inr (Or.inl rfl) | exact Or.inr (Or.inr rfl)) (hd0 : (x0 == ("__debug__" : Str)) = false := by decide) (hcd0 : (x0 == ("__classdict__" : Str)) = false := by decide) (ok : BlkOk X.N X.env.scope scope own)
    (hg : ∀ (s : Shared) (H : Hp) (C' : Addr) (cl : List (Str × Addr)) (fp : List Addr) (B' : Hp), Ctx (X.blk s H scope (compEnvC scope cl C' X.env) fp) G B' (fun _ _ _ _ => False) k → ZGc (X.blk s H scope (compEnvC scope cl C' X.env) fp) G B' (own.map (·.2)) tg g)
    (ht : ∀ (s : Shared) (H : Hp) (C' : Addr) (cl : List (Str × Addr)) (fp : List Addr) (B' : Hp), Ctx (X.blk s H scope (compEnvC scope cl C' X.env) fp) G B' (fun _ _ _ _ => False) k → ZTs (X.blk s H scope (compEnvC scope cl C' X.env) fp) G B' ifs tt)
    (he : ∀ (s : Shared) (H : Hp) (C' : Addr) (cl : List (Str × Addr)) (fp : List Addr) (B' : Hp), Ctx (X.blk s H scope (compEnvC scope cl C' X.env) fp) G B' (fun _ _ _ _ => False) k → ZE (X.blk s H scope (compEnvC scope cl C' X.env) fp) G B' elt t)
    (hs : ∀ x, foldedSetIterable (.Name x0 p0) X.env x = pure x := by intro _; rfl) : ZE X G B (.ListComp elt [⟨tg, .Name x0 p0, ifs, 0⟩] scope pos) (zLcV v0 g tt t (own.map (·.2))) := by
  have p := pi_seq (tg := tg) (pe_var (pos := p0) hN0 hvi hd0 hcd0)
  refine ⟨_, pe_lc (te := tFz (teOf X.K G t)) (tt := ttOf X.K G tt) (g := tgOf X.K G (own.map (·.2)) g) C.calm C.nd p ok (fun s H C' cl fp => pg_of fun B' => hg s H C' cl fp B' (C.blk s H scope _ fp B')) (fun s H C' cl fp => pts_of fun B' => ht s H C' cl fp B' (C.blk s H scope _ fp B'))
    (fun s H C' cl fp => pe_fz (pe_of fun B' => he s H C' cl fp B' (C.blk s H scope _ fp B'))) hs, fun σ H ss Q R S hw fin => lcV_zr σ H ss _ R S hw fun v H' acc ss' k rr q => fin v H' _ ss' k rr q⟩
/-- name = [..] on one line -/
theorem s_setLcV {v0 : Nat} {x0 : Str} {p0 : Pos} {i : Nat} {y : Str} {py spos : Pos} {elt tg : Expr} {ifs : List Expr} {scope : Scope} {own : List (Str × Nat)} {g : ZG1} {tt : ZTB} {t : ZT} (C : Ctx X G B Wz k) (hN0 : X.N[v0]? = some x0 := by rfl) (hvi : Vis X.env.scope x0 := by first | exact Or.inl rfl | exact Or.inr (Or.inl rfl) | exact Or.inr (Or.inr rfl)) (hd0 : (x0 == ("__debug__" : Str)) = false := by decide) (hcd0 : (x0 == ("__classdict__" : Str)) = false := by decide) (ok : BlkOk X.N X.env.scope scope own)
    (hg : ∀ (s : Shared) (H : Hp) (C' : Addr) (cl : List (Str × Addr)) (fp : List Addr) (B' : Hp), Ctx (X.blk s H scope (compEnvC scope cl C' X.env) fp) G B' (fun _ _ _ _ => False) k → ZGc (X.blk s H scope (compEnvC scope cl C' X.env) fp) G B' (own.map (·.2)) tg g)
    (ht : ∀ (s : Shared) (H : Hp) (C' : Addr) (cl : List (Str × Addr)) (fp : List Addr) (B' : Hp), Ctx (X.blk s H scope (compEnvC scope cl C' X.env) fp) G B' (fun _ _ _ _ => False) k → ZTs (X.blk s H scope (compEnvC scope cl C' X.env) fp) G B' ifs tt)
    (he : ∀ (s : Shared) (H : Hp) (C' : Addr) (cl : List (Str × Addr)) (fp : List Addr) (B' : Hp), Ctx (X.blk s H scope (compEnvC scope cl C' X.env) fp) G B' (fun _ _ _ _ => False) k → ZE (X.blk s H scope (compEnvC scope cl C' X.env) fp) G B' elt t)
    (hsw : swapsWith (.ListComp elt [⟨tg, .Name x0 p0, ifs, 0⟩] scope pos) (some (.Name y py)) spos.line X.env = pure true) (hy : X.N[i]? = some y := by rfl) (hyl : X.env.scope.names.lookup y = some .local := by rfl)
    (hs : ∀ x, foldedSetIterable (.Name x0 p0) X.env x = pure x := by intro _; rfl) : ZS X G B (.Assign [.Name y py] (.ListComp elt [⟨tg, .Name x0 p0, ifs, 0⟩] scope pos) spos) (zSet i (zLcV v0 g tt t (own.map (·.2)))) := by
  have p := pi_seq (tg := tg) (pe_var (pos := p0) hN0 hvi hd0 hcd0)
  refine ⟨_, ps_setLc (te := tFz (teOf X.K G t)) (tt := ttOf X.K G tt) (g := tgOf X.K G (own.map (·.2)) g) C.calm C.nd hy hyl hsw p ok (fun s H C' cl fp => pg_of fun B' => hg s H C' cl fp B' (C.blk s H scope _ fp B')) (fun s H C' cl fp => pts_of fun B' => ht s H C' cl fp B' (C.blk s H scope _ fp B'))
    (fun s H C' cl fp => pe_fz (pe_of fun B' => he s H C' cl fp B' (C.blk s H scope _ fp B'))) hs, fun σ H ss D D' S hw ok => ?_⟩
  unfold zSet zL at hw
  refine lcV_zr σ H ss _ _ S hw fun v H' acc ss' k rr q => ?_
  obtain ⟨as, S', ro, nd⟩ := rr
  exact ok.nx _ H' _ k (S'.set' ro nd) ((fc_iff _ _).mp q)
end

/-! ## instances that stand still or are owned -/
section
variable {X : Cx} {pins : List (Addr × Obj)} {σ : St} {H : Hp} {s : Shared} {a C dx : Addr} {fs : List (Str × V)} {f : Str} {v : V} {A : Around} {E : Value → Shared → Prop}
theorem ins_getR {P : Program} {w : World} {h : Heap} (hok : HOk P w H h) (e : Rd H a (.ins C dx fs)) : ∃ mA, ObjM h a dx C mA ∧ (∀ f, RelO (fs.lookup f) (mA f)) := by
  rcases e with e | ⟨o, e⟩
  · obtain ⟨mA, O, r, _⟩ := ins_get hok e
    exact ⟨mA, O, r⟩
  · obtain ⟨_, d, z, ne, ob, mA, n, r, q⟩ := hok a _ e
    exact ⟨mA, ⟨ob, n, ne⟩, r⟩
theorem getattr_okR {b : Bool} {Q : Value → Shared → Prop} (I : Inv X pins σ H s) (e : Rd H a (.ins C dx fs)) (c : Cls X.K C) (n : NoAttr X.K C f) (l : fs.lookup f = some v)
    (h : ∀ u s', Inv X pins σ H s' → RelV v u → Q u s') : wpAny (model X.prog X.w) A (getAttr (.ref a) f b) Q E s := by
  obtain ⟨mA, O, r⟩ := ins_getR I.hok e
  obtain ⟨u, hu, ru⟩ := RelO.some_of (v := v) (o := mA f) (by rw [← l]; exact r f)
  exact get_map I.kIn O (c.get f) c.hd n hu (handed_of ru) (h u _ (I.tok _) ru)
theorem getmeth_okR {m : Str} {g : Addr} {pl : Sem Bool} {Q : Value × List Value → Shared → Prop} (I : Inv X pins σ H s) (e : Rd H a (.ins C dx fs)) (c : Cls X.K C) (k : Meth X.K C m g) (l : fs.lookup m = none)
    (h : Q (.ref g, [.ref a]) s) : wpAny (model X.prog X.w) A (getMethod (.ref a) m pl) Q E s := by
  obtain ⟨mA, O, r⟩ := ins_getR I.hok e
  have hn : mA m = none := RelO.none_of (by rw [← l]; exact r m)
  exact get_meth I.kIn O (c.get m) k.at_ k.fn hn h
end
/-! ### names and what stands under them -/
def fldAt {α : Type} (f : Nat) : List Nat → List α → Option α
  | n :: ns, d :: ds => match n == f with
    | true => some d
    | false => fldAt f ns ds
  | _, _ => none
def fldOk (f : Nat) (ns : List Nat) : Bool := attB f && ns.all attB
def noFld (m : Nat) (ns : List Nat) : Bool := fldOk m ns && ns.all fun n => !(n == m)
theorem map_cons_inv {α β γ : Type} {f : α → β} {g : γ → β} {l : List α} {n : γ} {ns : List γ} (h : l.map f = (n :: ns).map g) : ∃ p l', l = p :: l' ∧ f p = g n ∧ l'.map f = ns.map g := by
  cases l with
  | nil => simp at h
  | cons p l => simp at h; exact ⟨p, l, rfl, h.1, h.2⟩
theorem look_fld {K : Frag} {G : Addr → Prop} {H : Hp} {f : Nat} : ∀ {ns : List Nat} {ds : List D} {fvs : List (Str × V)} {d : D}, fldOk f ns = true → fvs.map (·.1) = ns.map attN → DRs K G H (fvs.map (·.2)) ds → fldAt f ns ds = some d →
    ∃ v, fvs.lookup (attN f) = some v ∧ DR K G H v d
  | [], ds, fvs, d, _, _, _, h => by cases h
  | n :: ns, [], fvs, d, _, _, _, h => by cases h
  | n :: ns, x :: ds, fvs, d, ok, e, r, h => by
    obtain ⟨p, l', rfl, e1, e2⟩ := map_cons_inv e
    rw [List.map_cons] at r
    cases r with
    | cons r1 r2 =>
      unfold fldOk at ok
      rw [List.all_cons, Bool.and_eq_true, Bool.and_eq_true] at ok
      unfold fldAt at h
      cases q : n == f with
      | true =>
        rw [q] at h
        have e3 : n = f := by simpa using q
        subst e3
        have hx : x = d := by simpa using h
        subst hx
        refine ⟨p.2, ?_, r1⟩
        obtain ⟨pn, pv⟩ := p
        have e4 : pn = attN n := e1
        subst e4
        rw [List.lookup_cons]; simp
      | false =>
        rw [q] at h
        have ne : n ≠ f := by simpa using q
        obtain ⟨v, hv, rv⟩ := look_fld (fvs := l') (by unfold fldOk; rw [ok.1, ok.2.2]; rfl) e2 r2 h
        refine ⟨v, ?_, rv⟩
        obtain ⟨pn, pv⟩ := p
        have e4 : pn = attN n := e1
        subst e4
        have : (attN f == attN n) = false := beq_eq_false_iff_ne.mpr (attN_ne ok.1 ok.2.1 (Ne.symm ne))
        rw [List.lookup_cons, this]; exact hv
theorem look_no {m : Nat} : ∀ {ns : List Nat} {fvs : List (Str × V)}, noFld m ns = true → fvs.map (·.1) = ns.map attN → fvs.lookup (attN m) = none
  | [], fvs, _, e => by
    cases fvs with
    | nil => rfl
    | cons _ _ => simp at e
  | n :: ns, fvs, ok, e => by
    obtain ⟨p, l', rfl, e1, e2⟩ := map_cons_inv e
    unfold noFld fldOk at ok
    simp only [List.all_cons, Bool.and_eq_true] at ok
    obtain ⟨⟨o1, o2, o3⟩, o4, o5⟩ := ok
    have ne : n ≠ m := by simpa using o4
    obtain ⟨pn, pv⟩ := p
    have e4 : pn = attN n := e1
    subst e4
    have : (attN m == attN n) = false := beq_eq_false_iff_ne.mpr (attN_ne o1 o2 (Ne.symm ne))
    rw [List.lookup_cons, this]
    exact look_no (by unfold noFld fldOk; simp only [Bool.and_eq_true]; exact ⟨⟨o1, o3⟩, o5⟩) e2
/-- what of the text the classes cs must have for the attribute f -/
inductive FldOk (K : Frag) (f : Nat) : List Nat → Prop
  | nil : FldOk K f []
  | cons {c : Nat} {C : Addr} {cs : List Nat} : ClsAt K c C → Cls K C → NoAttr K C (attN f) → FldOk K f cs → FldOk K f (c :: cs)
theorem FldOk.at {K : Frag} {f : Nat} {c : Nat} {C : Addr} : ∀ {cs : List Nat}, FldOk K f cs → cs.contains c = true → ClsAt K c C → Cls K C ∧ NoAttr K C (attN f)
  | _, .nil, h, _ => by simp at h
  | _, .cons (c := c1) a b n t, h, hc => by
    by_cases e : c = c1
    · subst e
      cases ClsAt.eq a hc
      exact ⟨b, n⟩
    · refine t.at ?_ hc
      simp only [List.contains_cons, Bool.or_eq_true] at h
      rcases h with h | h
      · exact absurd (by simpa using h) e
      · exact h
/-! ### e.f -/
def tFldR (K : Frag) (ta : TE) (f : Str) : TE := fun σ H Q => ta σ H fun x H1 => ∃ a C dx fs v, x = .ref a ∧ Rd H1 a (.ins C dx fs) ∧ Cls K C ∧ NoAttr K C f ∧ fs.lookup f = some v ∧ Q v H1
theorem pe_fldR {X : Cx} {e : Expr} {f : Str} {pos : Pos} {ta : TE} (he : PE X e ta) (hb : attributeBase e f X.env (eval e X.env) = eval e X.env) : PE X (.Attribute e f pos) (tFldR X.K ta f) := by
  refine ⟨fun pins s σ H Q I h => ?_⟩
  refine attr_of hb (thn (he.run pins s σ H _ I h) fun u s1 ⟨x, H1, I1, rx, a, C, dx, fs, v, ex, ea, c, n, l, q⟩ => ?_)
  subst ex
  obtain rfl : u = Value.ref a := rx
  exact getattr_okR I1 ea c n l fun u' s2 I2 ru => ⟨v, H1, I2, ru, q⟩
section
variable {X : Cx} {G : Addr → Prop} {B : Hp} {Wz : WZ} {k j : Nat} {e o a b c : Expr} {es : List Expr} {t to : ZT} {ts : ZTA} {pos apos cpos p : Pos}
/-- e.f: of an instance that stands still, or of one that a name owns (there: what owns nothing) -/
def zFld (cs : List Nat) (f : Nat) (to : ZT) : ZT := fun ss Q => to ss fun r s => match r with
  | .d (.obj c ns ds) => match fldAt f ns ds with
    | some d => Sd ((cs.contains c && fldOk f ns) = true) ∧ Q (.d d) s
    | none => False
  | .loc i => match s[i]? with
    | some (some (.ins _ c ns os)) => match fldAt f ns os with
      | some (.pure d) => Sd ((cs.contains c && fldOk f ns) = true) ∧ Q (.d d) s
      | _ => False
    | _ => False
  | _ => False
theorem look_own {K : Frag} {G : Addr → Prop} {H : Hp} {f : Nat} : ∀ {ns : List Nat} {os : List O} {as : List Addr} {fvs : List (Str × V)} {d : D}, fldOk f ns = true → fvs.map (·.1) = ns.map attN → ORs K G H (fvs.map (·.2)) os as → fldAt f ns os = some (.pure d) →
    ∃ v, fvs.lookup (attN f) = some v ∧ DR K G H v d
  | [], os, as, fvs, d, _, _, _, h => by cases h
  | n :: ns, [], as, fvs, d, _, _, _, h => by cases h
  | n :: ns, x :: os, as, fvs, d, ok, e, r, h => by
    obtain ⟨p, l', rfl, e1, e2⟩ := map_cons_inv e
    rw [List.map_cons] at r
    cases r with
    | cons r1 r2 =>
      unfold fldOk at ok
      rw [List.all_cons, Bool.and_eq_true, Bool.and_eq_true] at ok
      unfold fldAt at h
      cases q : n == f with
      | true =>
        rw [q] at h
        have e3 : n = f := by simpa using q
        subst e3
        have hx : x = .pure d := by simpa using h
        subst hx
        obtain ⟨pn, pv⟩ := p
        have e4 : pn = attN n := e1
        subst e4
        have r1' : OR K G H pv (.pure d) _ := r1
        cases r1' with
        | pure r9 =>
          refine ⟨pv, ?_, r9⟩
          rw [List.lookup_cons]; simp
      | false =>
        rw [q] at h
        have ne : n ≠ f := by simpa using q
        obtain ⟨v, hv, rv⟩ := look_own (fvs := l') (by unfold fldOk; rw [ok.1, ok.2.2]; rfl) e2 r2 h
        refine ⟨v, ?_, rv⟩
        obtain ⟨pn, pv⟩ := p
        have e4 : pn = attN n := e1
        subst e4
        have : (attN f == attN n) = false := beq_eq_false_iff_ne.mpr (attN_ne ok.1 ok.2.1 (Ne.symm ne))
        rw [List.lookup_cons, this]; exact hv
theorem z_fld {cs : List Nat} {f : Nat} {m : Str} (he : ZE X G B e to) (fo : FldOk X.K f cs) (hm : m = attN f := by rfl) (hb : attributeBase e m X.env (eval e X.env) = eval e X.env := by rfl) : ZE X G B (.Attribute e m pos) (zFld cs f to) := by
  obtain ⟨te, pt, z⟩ := he
  refine ⟨_, pe_fldR pt hb, fun σ H ss Q R S hw fin => ?_⟩
  subst hm
  refine z σ H ss _ _ S hw fun v H1 r s1 k1 rr q => ?_
  cases r with
  | new o => exact q.elim
  | d x =>
    cases x with
    | obj cn ns ds =>
      cases ef : fldAt f ns ds with
      | none => simp only [ef] at q
      | some d =>
        simp only [ef] at q
        obtain ⟨S1, rd⟩ := rr
        cases rd with
        | @obj a C dx _ ob fvs _ _ hc h1 h2 h3 =>
          have sd := (Bool.and_eq_true _ _).mp q.1.h
          obtain ⟨cl, na⟩ := fo.at sd.1 hc
          obtain ⟨w, hw2, rw2⟩ := look_fld sd.2 h2 h3 ef
          exact ⟨a, C, dx, fvs, w, rfl, .inr ⟨_, h1⟩, cl, na, hw2, fin _ H1 (.d d) s1 k1 ⟨S1, rw2⟩ q.2⟩
    | _ => exact q.elim
  | loc i =>
    obtain ⟨S1, ev⟩ := rr
    cases es : s1[i]? with
    | none => simp only [es] at q
    | some oo =>
      cases oo with
      | none => simp only [es] at q
      | some o =>
        cases o with
        | pure d => simp only [es] at q
        | lst d => simp only [es] at q
        | dct _ _ => simp only [es] at q
        | ins a0 cn ns os =>
          simp only [es] at q
          cases ef : fldAt f ns os with
          | none => simp only [ef] at q
          | some oo =>
            cases oo with
            | lst _ => simp only [ef] at q
            | ins _ _ _ _ => simp only [ef] at q
            | dct _ _ => simp only [ef] at q
            | pure d =>
              simp only [ef] at q
              obtain ⟨w, as, ew, ro⟩ := S1.get es
              rw [ev] at ew
              cases ew
              cases ro with
              | @ins _ C dx _ fvs _ _ _ hc h1 h2 h3 =>
                have sd := (Bool.and_eq_true _ _).mp q.1.h
                obtain ⟨cl, na⟩ := fo.at sd.1 hc
                obtain ⟨w, hw2, rw2⟩ := look_own sd.2 h2 h3 ef
                exact ⟨a0, C, dx, fvs, w, rfl, .inl h1, cl, na, hw2, fin _ H1 (.d d) s1 k1 ⟨S1, rw2⟩ q.2⟩
end

/-! ## methods -/
section
variable {X : Cx} {G : Addr → Prop} {B : Hp} {Wz : WZ} {k j : Nat} {e o a b c : Expr} {es : List Expr} {t to : ZT} {ts : ZTA} {pos apos cpos p : Pos}
def tMethT (X : Cx) (k : Nat) (m : Str) (W : WX) (ta : TE) (t : TA) : TE := fun σ H Q => ta σ H fun x H1 => ∃ (a C dx : Addr) (fs : List (Str × V)) (f : Addr) (fd : FuncData) (ps : List Str) (j : Nat) (sp : Sp), x = .ref a ∧ Rd H1 a (.ins C dx fs) ∧ fs.lookup m = none ∧
  j ≤ k ∧ Cls X.K C ∧ Meth X.K C m f ∧ FnOk X.prog X.w X.K X.mg X.base (L2.CX X.prog X.w) j f fd ps sp ∧ Binds X.K fd ps [] ∧
  t σ H1 fun vs H2 => ∃ L : LL, (∀ p ∈ L, H2 p.1 = some p.2 ∧ Lk p.2) ∧ ∀ od, sp (x :: vs) (lkd L od H2) (fun v H' => Same (lkd L od H2) H' ∧ Q v (unl L H')) fun cls d H' => Same (lkd L od H2) H' ∧ W cls d σ (unl L H')
theorem pe_methT {pl : Sem Bool} {m : Str} {W : WX} {ta : TE} {t : TA} (he : PE X o ta) (hr : Room k X.A) (tk : Takes X W) (ha : PA X (e :: es) t)
    (hst : starEach (e :: es) X.env = (false, eval e X.env) :: starEach es X.env := by rfl) (hpl : (backTo pos (starEach es X.env)).any (·.1) = false := by rfl)
    (ht : eval (.Call (.Attribute o m apos) (e :: es) [] pos) X.env = (do
      let ov ← eval o X.env
      standAt apos.atName
      let (f, first) ← holding [ov] (getMethod ov m pl)
      callWith pos f first (backTo pos (starEach (e :: es) X.env)) (backToKw pos (keywordEach [] X.env))) := by rfl) :
    PE X (.Call (.Attribute o m apos) (e :: es) [] pos) (tMethT X k m W ta t) := by
  refine ⟨fun pins s σ H Q I h => ?_⟩
  refine PySem.W.methodCall_KW (pl := pl) (thn (he.run pins s σ H _ I h) fun u s1 ⟨x, H1, I1, rx, a, C, dx, fs, f, fd, ps, j, sp, ex, ea, l, hj, c, hm, F, hb, q⟩ => ?_) ht
  subst ex
  obtain rfl : u = Value.ref a := rx
  refine getmeth_okR I1 ea c hm l ?_
  refine PySem.W.callWith_K (first := [.ref a]) (h₀ := X.base) I.ok.mod.kin hm.kp (thn (ha.run pos pins s1 σ H1 _ I1 q) fun us s2 ⟨vs, H2, I2, r, q2⟩ => ⟨I2.kIn, ?_⟩) hst hpl
  exact run_lent (us := .ref a :: us) (vs := .ref a :: vs) F (hr.mono hj) hb tk I2 (.cons rfl r) q2
theorem pe_methT0 {pl : Sem Bool} {m : Str} {W : WX} {ta : TE} (he : PE X o ta) (hr : Room k X.A) (tk : Takes X W)
    (ht : eval (.Call (.Attribute o m apos) [] [] pos) X.env = (do
      let ov ← eval o X.env
      standAt apos.atName
      let (f, first) ← holding [ov] (getMethod ov m pl)
      callWith pos f first (backTo pos (starEach [] X.env)) (backToKw pos (keywordEach [] X.env))) := by rfl) :
    PE X (.Call (.Attribute o m apos) [] [] pos) (tMethT X k m W ta tNil) := by
  refine ⟨fun pins s σ H Q I h => ?_⟩
  refine PySem.W.methodCall_KW (pl := pl) (thn (he.run pins s σ H _ I h) fun u s1 ⟨x, H1, I1, rx, a, C, dx, fs, f, fd, ps, j, sp, ex, ea, l, hj, c, hm, F, hb, q⟩ => ?_) ht
  subst ex
  obtain rfl : u = Value.ref a := rx
  refine getmeth_okR I1 ea c hm l ?_
  exact PySem.W.callWith_K0 (first := [.ref a]) I1.kIn hm.kp (run_lent (us := [.ref a]) (vs := [.ref a]) F (hr.mono hj) hb tk I1 (.cons rfl .nil) q)
/-- the method m of the classes in the table -/
inductive MetsOk (P : Program) (w : World) (K : Frag) (mg : Str → Option Value) (base : Heap) (k m : Nat) : List (Nat × FS) → Prop
  | nil : MetsOk P w K mg base k m []
  | cons {c : Nat} {C f : Addr} {fd : FuncData} {ps : List Str} {j : Nat} {fs : FS} {tbl : List (Nat × FS)} : ClsAt K c C → Cls K C → Meth K C (attN m) f → FnOk P w K mg base (L2.CX P w) j f fd ps (toSp K fs) → Binds K fd ps [] → j ≤ k → MetsOk P w K mg base k m tbl → MetsOk P w K mg base k m ((c, fs) :: tbl)
def lookN {α : Type} (c : Nat) : List (Nat × α) → Option α
  | (n, x) :: l => match n == c with
    | true => some x
    | false => lookN c l
  | [] => none
theorem MetsOk.at {P : Program} {w : World} {K : Frag} {mg : Str → Option Value} {base : Heap} {k m c : Nat} {C : Addr} {fs : FS} : ∀ {tbl : List (Nat × FS)}, MetsOk P w K mg base k m tbl → lookN c tbl = some fs → ClsAt K c C →
    ∃ f fd ps j, j ≤ k ∧ Cls K C ∧ Meth K C (attN m) f ∧ FnOk P w K mg base (L2.CX P w) j f fd ps (toSp K fs) ∧ Binds K fd ps []
  | _, .nil, h, _ => by cases h
  | _, .cons (c := c1) a b d F bd hj t, h, hc => by
    unfold lookN at h
    cases e : c1 == c with
    | true =>
      rw [e] at h
      have e1 : c1 = c := by simpa using e
      subst e1
      cases h
      cases ClsAt.eq a hc
      exact ⟨_, _, _, _, hj, b, d, F, bd⟩
    | false =>
      rw [e] at h
      exact t.at h hc
/-- o.m(..), o frozen -/
def zMth (tbl : List (Nat × FS)) (m : Nat) (Wz : WZ) (to : ZT) (ts : ZTA) : ZT := fun ss Q => zF to ss fun o s1 => match o with
  | .obj c ns ds => match lookN c tbl with
    | some fs => Sd (noFld m ns = true) ∧ ts s1 fun rs s2 => zCallQ fs Wz (.d (.obj c ns ds) :: rs) s2 Q
    | none => False
  | _ => False
theorem mth_zr {tbl : List (Nat × FS)} {m : Nat} {W : WX} {ta : TE} {t : TA} (mo : MetsOk X.prog X.w X.K X.mg X.base k m tbl) (hW : ∀ σ H ss cls d c ns ds, Sm X.K G B [] σ H ss → XR X.K G H cls d c ns ds → Wz c ns ds ss → W cls d σ H)
    (za : ZrD X.K G B ta (zF to)) (zt : ZrA X.K G B t ts) : Zr X.K G B (tMethT X k (attN m) W ta t) (zMth tbl m Wz to ts) := by
  intro σ H ss Q R S hw fin
  refine za σ H ss _ _ S hw fun v H1 d s1 k1 S1 rd q => ?_
  cases d with
  | obj c ns ds =>
    cases el : lookN c tbl with
    | none => simp only [el] at q
    | some fs =>
      simp only [el] at q
      have rd0 := rd
      cases rd with
      | @obj a C dx _ ob fvs _ _ hc h1 h2 h3 =>
        obtain ⟨f, fd, ps, j, hj, cl, me, F, bd⟩ := mo.at el hc
        refine ⟨a, C, dx, fvs, f, fd, ps, j, _, rfl, .inr ⟨_, h1⟩, look_no q.1.h h2, hj, cl, me, F, bd, ?_⟩
        refine zt σ H1 s1 _ _ S1 q.2 fun vs H2 rs s2 k2 S2 ar q2 => ?_
        exact call_at (vs := .ref a :: vs) (rs := .d (.obj c ns ds) :: rs) hW S2 ⟨rd0.kp k2, ar⟩ q2 fun v H' r k3 rr qq => fin v H' r s2 ((k1.trans k2).trans k3) rr qq
  | _ => exact q.elim
theorem z_mth {tbl : List (Nat × FS)} {m : Nat} {x : Str} {pl : Sem Bool} (C : Ctx X G B Wz k) (he : ZE X G B o to) (mo : MetsOk X.prog X.w X.K X.mg X.base k m tbl) (ha : ZA X G B (e :: es) ts) (hx : x = attN m := by rfl)
    (hst : starEach (e :: es) X.env = (false, eval e X.env) :: starEach es X.env := by rfl) (hpl : (backTo pos (starEach es X.env)).any (·.1) = false := by rfl)
    (ht : eval (.Call (.Attribute o x apos) (e :: es) [] pos) X.env = (do
      let ov ← eval o X.env
      standAt apos.atName
      let (f, first) ← holding [ov] (getMethod ov x pl)
      callWith pos f first (backTo pos (starEach (e :: es) X.env)) (backToKw pos (keywordEach [] X.env))) := by rfl) :
    ZE X G B (.Call (.Attribute o x apos) (e :: es) [] pos) (zMth tbl m Wz to ts) := by
  obtain ⟨W, tk, hW⟩ := C.wish
  obtain ⟨tae, pae, zae⟩ := z_fz he
  obtain ⟨te, pa, za⟩ := ha
  subst hx
  exact ⟨_, pe_methT (pl := pl) pae C.room tk pa hst hpl ht, mth_zr mo hW zae za⟩
theorem z_mth0 {tbl : List (Nat × FS)} {m : Nat} {x : Str} {pl : Sem Bool} (C : Ctx X G B Wz k) (he : ZE X G B o to) (mo : MetsOk X.prog X.w X.K X.mg X.base k m tbl) (hx : x = attN m := by rfl)
    (ht : eval (.Call (.Attribute o x apos) [] [] pos) X.env = (do
      let ov ← eval o X.env
      standAt apos.atName
      let (f, first) ← holding [ov] (getMethod ov x pl)
      callWith pos f first (backTo pos (starEach [] X.env)) (backToKw pos (keywordEach [] X.env))) := by rfl) :
    ZE X G B (.Call (.Attribute o x apos) [] [] pos) (zMth tbl m Wz to zaNil) := by
  obtain ⟨W, tk, hW⟩ := C.wish
  obtain ⟨tae, pae, zae⟩ := z_fz he
  subst hx
  exact ⟨_, pe_methT0 (pl := pl) pae C.room tk ht, mth_zr (t := tNil) (ts := zaNil) mo hW zae (fun σ H ss Q R S hw fin => fin [] H [] ss (Kp.refl H) S trivial hw)⟩
end

/-! ## new instances -/
section
variable {X : Cx} {C : Addr} {pins : List (Addr × Obj)} {σ : St} {H : Hp} {s : Shared} {Q : VK}
theorem run_make0 (hm : PySem.W.makesIn X.K C = true) (hi : PySem.W.findIn X.K (.ref C) "__init__" = some (some (.builtin "object.__init__"))) (I : Inv X pins σ H s)
    (h : ∀ x dx, H x = none → H dx = none → dx ≠ x → Q (.ref x) (upd (upd H dx (.own x)) x (.ins C dx []))) : wpAny (model X.prog X.w) X.A (call (.ref C) []) (EP X pins σ Q) X.xe s := by
  have hq := h (s.heap.objs.size + 1) s.heap.objs.size (I.hok.fresh (Nat.le_succ _)) (I.hok.fresh (Nat.le_refl _)) (Nat.ne_of_lt (Nat.lt_succ_self _))
  have I2 := Inv.made (C := C) I
  refine wpAny_call (make_map0 I.kIn hm hi (fun self => PySem.W.Looks.of_pure (PySem.W.oi_bind self)) ?_)
  have Y := PySem.W.makes_of (M := model X.prog X.w) I.kIn hm
  have e2 : ((s.heap.push PySem.W.emptyDict).push (PySem.W.instObj C s.heap.objs.size)).get? (s.heap.objs.size + 1) = some (PySem.W.instObj C s.heap.objs.size) := by
    have := Heap.get?_push_size (s.heap.push PySem.W.emptyDict) (o := PySem.W.instObj C s.heap.objs.size) rfl
    rwa [Heap.size_push] at this
  have t1 : PySem.W.Looks (model X.prog X.w) ((s.heap.push PySem.W.emptyDict).push (PySem.W.instObj C s.heap.objs.size)) (typeOf (.ref (s.heap.objs.size + 1))) (.ref C) := (PySem.W.Looks.ld e2).andThen .now
  have t2 : PySem.W.Looks (model X.prog X.w) ((s.heap.push PySem.W.emptyDict).push (PySem.W.instObj C s.heap.objs.size)) (isInstance (.ref (s.heap.objs.size + 1)) (.type "object")) true :=
    t1.andThen (Y.top.keeps fun b o e => Heap.get?_push_of_some _ (Heap.get?_push_of_some _ e))
  refine codeAny_call_builtin PySem.W.oi_plain PySem.W.entry_oi (@PySem.W.check_slot (model X.prog X.w) _ _ _ "object.__init__" "object" "__init__" (.ref (s.heap.objs.size + 1)) [] [] _ PySem.W.oi_kind PySem.W.oi_split t2 (PySem.W.oi_args (.ref (s.heap.objs.size + 1))) ?_)
  rw [PySem.W.oi_run]
  exact wpAny_pure (And.intro rfl ⟨V.ref (s.heap.objs.size + 1), _, I2, rfl, hq⟩)
theorem run_makeE {f : Addr} {fd : FuncData} {ps : List Str} {ds : List Value} {dvs vs : List V} {us : List Value} {k : Nat} {sp : Sp} {W : WX} (M : Mk X.K C f) (F : FnOk X.prog X.w X.K X.mg X.base (L2.CX X.prog X.w) k f fd ps sp) (hr : Room (k + 1) X.A) (hb : Binds X.K fd ps ds) (hd : Vals dvs ds)
    (tk : Takes X W) (I : Inv X pins σ H s) (r : Vals vs us)
    (h : ∀ x dx, H x = none → H dx = none → dx ≠ x → sp (.ref x :: (vs ++ dvs)) (upd (upd H dx (.own x)) x (.ins C dx [])) (fun v H2 => v = .non ∧ Q (.ref x) H2) fun cls d H' => W cls d σ H') :
    wpAny (model X.prog X.w) X.A (call (.ref C) us) (EP X pins σ Q) X.xe s := by
  have hq := h (s.heap.objs.size + 1) s.heap.objs.size (I.hok.fresh (Nat.le_succ _)) (I.hok.fresh (Nat.le_refl _)) (Nat.ne_of_lt (Nat.lt_succ_self _))
  have I2 := Inv.made (C := C) I
  have r2 : Vals (V.ref (s.heap.objs.size + 1) :: (vs ++ dvs)) (Value.ref (s.heap.objs.size + 1) :: (us ++ ds)) := .cons rfl (r.append hd)
  have hl : (Value.ref (s.heap.objs.size + 1) :: us ++ ds).length = ps.length := by
    have e := r2.length
    rw [F.len _ _ _ _ hq] at e
    exact e.symm
  refine wpAny_call (make_map (f := f) I.kIn M.makes M.init (beq_iff_eq.mp M.fn) (codeAny_mono (F.run _ X.stack _ _ ⟨Value.ref (s.heap.objs.size + 1) :: us, []⟩ (Value.ref (s.heap.objs.size + 1) :: (us ++ ds)) _ _ _ (hr.make C us [])
    (I2.env0.make C us []) (hb _ (Value.ref (s.heap.objs.size + 1) :: us) I2.kIn hl) r2 hq) fun r s' hq' => ?_))
  cases r with
  | error e => exact tk _ _ (XE.of_call I2 (fun _ _ _ z => z) hq')
  | ok fl =>
    cases fl with
    | ret u =>
      obtain ⟨v, H', I3, rv, ev, q3⟩ := I2.after hq'
      subst ev
      exact ⟨rv, ⟨V.ref (s.heap.objs.size + 1), H', I3, rfl, q3⟩⟩
    | next => exact False.elim hq'
    | brk => exact False.elim hq'
    | cont => exact False.elim hq'
end
def tNew0 (C : Addr) : TE := fun _ H Q => ∀ x dx, H x = none → H dx = none → dx ≠ x → Q (.ref x) (upd (upd H dx (.own x)) x (.ins C dx []))
def tMakeE (C : Addr) (sp : Sp) (dvs : List V) (W : WX) (t : TA) : TE := fun σ H Q => t σ H fun vs H1 => ∀ x dx, H1 x = none → H1 dx = none → dx ≠ x →
  sp (.ref x :: (vs ++ dvs)) (upd (upd H1 dx (.own x)) x (.ins C dx [])) (fun v H2 => v = .non ∧ Q (.ref x) H2) fun cls d H' => W cls d σ H'
section
variable {X : Cx} {C f : Addr} {fd : FuncData} {ps : List Str} {ds : List Value} {dvs : List V} {k : Nat} {sp : Sp} {W : WX} {x : Str} {p pos : Pos} {e : Expr} {es : List Expr} {t : TA}
theorem pe_new00 (hm : PySem.W.makesIn X.K C = true) (hi : PySem.W.findIn X.K (.ref C) "__init__" = some (some (.builtin "object.__init__"))) (hk : PySem.W.keepIn X.K (.ref C) = true) (hg : Gl X x) (hmg : X.mg x = some (.ref C))
    (hdb : (x == ("__debug__" : Str)) = false := by decide) : PE X (.Call (.Name x p) [] [] pos) (tNew0 C) := by
  refine ⟨fun pins s σ H Q I h => ?_⟩
  refine wpAny_Call_Name_kw (ld_glob I hg hmg ?_ hdb)
  exact PySem.W.callWith_K0 I.kIn hk (run_make0 hm hi I h)
theorem pe_makeE (M : Mk X.K C f) (F : FnOk X.prog X.w X.K X.mg X.base (L2.CX X.prog X.w) k f fd ps sp) (hr : Room (k + 1) X.A) (hg : Gl X x) (hm : X.mg x = some (.ref C)) (hb : Binds X.K fd ps ds) (hd : Vals dvs ds) (tk : Takes X W)
    (ha : PA X (e :: es) t) (hdb : (x == ("__debug__" : Str)) = false := by decide) (he : starEach (e :: es) X.env = (false, eval e X.env) :: starEach es X.env := by rfl) (hpl : (backTo pos (starEach es X.env)).any (·.1) = false := by rfl) :
    PE X (.Call (.Name x p) (e :: es) [] pos) (tMakeE C sp dvs W t) := by
  refine ⟨fun pins s σ H Q I h => ?_⟩
  refine wpAny_Call_Name_kw (ld_glob I hg hm ?_ hdb)
  refine PySem.W.callWith_K (h₀ := X.base) I.ok.mod.kin M.kp (thn (ha.run pos pins s σ H _ I h) fun us s1 ⟨vs, H1, I1, r, q⟩ => ⟨I1.kIn, ?_⟩) he hpl
  exact run_makeE M F hr hb hd tk I1 r q
end
structure Al (p : Addr → Prop) : Prop where
  h : ∀ a, p a
/-- the promise of an __init__: the data, what the instance has behind it, what it raises -/
abbrev FSI := List D → (List Nat → List D → Prop) → EZ → Prop
def toSpI (K : Frag) (c : Nat) (f : FSI) : Sp := fun vs H Q E => ∃ (G : Addr → Prop) (a C dx : Addr) (ws : List V) (ds : List D) (Qz : List Nat → List D → Prop) (Ez : EZ), vs = .ref a :: ws ∧ H a = some (.ins C dx []) ∧ ClsAt K c C ∧ ¬ G a ∧
  (∀ a, G a → ∃ o, H a = some o) ∧ DRs K G H ws ds ∧ f ds Qz Ez ∧
  (∀ H' dx' fvs ns ds', (∀ b o, b ≠ a → H b = some o → H' b = some o) → H' a = some (.ins C dx' fvs) → fvs.map (·.1) = ns.map attN → DRs K G H' (fvs.map (·.2)) ds' → Qz ns ds' → Q .non H') ∧
  ∀ cls d H' c ns es, (∀ b o, b ≠ a → H b = some o → H' b = some o) → XR K G H' cls d c ns es → Ez c ns es → E cls d H'
theorem ORs_pure {K : Frag} {G : Addr → Prop} {H : Hp} : ∀ {vs : List V} {ds : List D}, DRs K G H vs ds → ORs K G H vs (ds.map .pure) []
  | _, _, .nil => .nil
  | _, _, .cons a b => .cons (as := []) (.pure a) (ORs_pure b)
section
variable {X : Cx} {G : Addr → Prop} {B : Hp} {Wz : WZ} {k j : Nat} {e o a b c : Expr} {es : List Expr} {t to : ZT} {pos apos cpos p : Pos}
def zNew0 (c : Nat) : ZT := fun ss Q => Al fun a => Q (.new (.ins a c [] [])) ss
theorem z_new0 {c : Nat} {C : Addr} {x : Str} (hc : ClsAt X.K c C) (hmg : X.mg x = some (.ref C)) (hm : PySem.W.makesIn X.K C = true) (hi : PySem.W.findIn X.K (.ref C) "__init__" = some (some (.builtin "object.__init__"))) (hk : PySem.W.keepIn X.K (.ref C) = true)
    (hg : Gl X x := by rfl) (hdb : (x == ("__debug__" : Str)) = false := by decide) : ZE X G B (.Call (.Name x p) [] [] pos) (zNew0 c) := by
  refine ⟨_, pe_new00 hm hi hk hg hmg hdb, fun σ H ss Q R S hw fin => ?_⟩
  intro x dx n1 n2 ne
  have sm : Same H (upd (upd H dx (.own x)) x (.ins C dx [])) := fun b o e => by
    rw [upd_ne (ne_of_none e n1), upd_ne (ne_of_none e n2)]; exact e
  refine fin (.ref x) _ (.new (.ins x c [] [])) ss (Kp.of sm) ⟨[x], S.alloc sm (fun a ha => by simp at ha; rw [ha]; exact n1), .ins hc upd_same rfl .nil, by simp⟩ (hw.h x)
/-- C(..) -/
def zMake (c : Nat) (fs : FSI) (dds : List D) (Wz : WZ) (ts : ZTDs) : ZT := fun ss Q => ts ss fun ds s => Al fun a => fs (ds ++ dds) (fun ns ds' => Q (.new (.ins a c ns (ds'.map .pure))) s) fun cls ns es => Wz cls ns es s
theorem DRs.append' {K : Frag} {H : Hp} {vs ws : List V} {ds es : List D} (h : DRs K G H vs ds) (g : DRs K G H ws es) : DRs K G H (vs ++ ws) (ds ++ es) := by
  match vs, ds, h with
  | [], [], _ => exact g
  | v :: vs, d :: ds, .cons a b => exact .cons a (DRs.append' b g)
theorem z_make {c : Nat} {C f : Addr} {fd : FuncData} {ps : List Str} {ds : List Value} {dvs : List V} {dds : List D} {fs : FSI} {ts : ZTDs} {x : Str} (Cc : Ctx X G B Wz k) (hc : ClsAt X.K c C) (M : Mk X.K C f)
    (F : FnOk X.prog X.w X.K X.mg X.base (L2.CX X.prog X.w) j f fd ps (toSpI X.K c fs)) (hj : j + 1 ≤ k) (hm : X.mg x = some (.ref C)) (hb : Binds X.K fd ps ds) (hd : Vals dvs ds) (hdd : ∀ G H, DRs X.K G H dvs dds)
    (ha : ZDs X G B (e :: es) ts) (hg : Gl X x := by rfl) (hdb : (x == ("__debug__" : Str)) = false := by decide) (he : starEach (e :: es) X.env = (false, eval e X.env) :: starEach es X.env := by rfl) (hpl : (backTo pos (starEach es X.env)).any (·.1) = false := by rfl) :
    ZE X G B (.Call (.Name x p) (e :: es) [] pos) (zMake c fs dds Wz ts) := by
  obtain ⟨W, tk, hW⟩ := Cc.wish
  obtain ⟨te, pa, za⟩ := ha
  refine ⟨_, pe_makeE M F (Cc.room.mono hj) hg hm hb hd tk pa hdb he hpl, fun σ H ss Q R S hw fin => ?_⟩
  refine za σ H ss _ _ S hw fun vs H1 es' s1 k1 S1 rs q => ?_
  intro x dx n1 n2 ne
  have sm : Same H1 (upd (upd H1 dx (.own x)) x (.ins C dx [])) := fun b o e => by
    rw [upd_ne (ne_of_none e n1), upd_ne (ne_of_none e n2)]; exact e
  have sm2 : ∀ {H' : Hp}, (∀ b o, b ≠ x → (upd (upd H1 dx (.own x)) x (.ins C dx [])) b = some o → H' b = some o) → Same H1 H' := fun {H'} h b o e => h b o (ne_of_none e n1) (sm b o e)
  refine ⟨G, x, C, dx, vs ++ dvs, es' ++ dds, _, _, rfl, upd_same, hc, fun g => ?_, fun a g => ?_, (DRs.append' rs (hdd G H1)).kp (Kp.of sm), q.h x, fun H' dx' fvs ns ds' h1 h2 h3 h4 qq => ⟨rfl, ?_⟩, fun cls d H' cn ns es h1 xr w => ?_⟩
  · obtain ⟨o, h⟩ := S1.gb x g
    have := S1.keep _ _ h
    rw [n1] at this; cases this
  · obtain ⟨o, h⟩ := S1.gb a g
    exact ⟨o, sm _ _ (S1.keep _ _ h)⟩
  · exact fin (.ref x) H' (.new (.ins x c ns (ds'.map .pure))) s1 (k1.trans (Kp.of (sm2 h1))) ⟨[x], S1.alloc (sm2 h1) (fun a ha => by simp at ha; rw [ha]; exact n1), .ins hc h2 h3 (ORs_pure h4), by simp⟩ qq
  · exact hW σ H' s1 cls d cn ns es (S1.same (sm2 h1)) xr w
end

/-! ## self.f = e -/
def putN (f : Nat) : List Nat → List Nat
  | [] => [f]
  | n :: ns => match n == f with
    | true => n :: ns
    | false => n :: putN f ns
def putD (f : Nat) (d : D) : List Nat → List D → List D
  | [], _ => [d]
  | n :: ns, x :: ds => match n == f with
    | true => d :: ds
    | false => x :: putD f d ns ds
  | _ :: _, [] => []
theorem put_fld {K : Frag} {G : Addr → Prop} {H : Hp} {f : Nat} {v : V} {d : D} (rd : DR K G H v d) : ∀ {ns : List Nat} {ds : List D} {fvs : List (Str × V)}, fldOk f ns = true → fvs.map (·.1) = ns.map attN → DRs K G H (fvs.map (·.2)) ds →
    (putF (attN f) v fvs).map (·.1) = (putN f ns).map attN ∧ DRs K G H ((putF (attN f) v fvs).map (·.2)) (putD f d ns ds)
  | [], ds, fvs, _, e, r => by
    have : fvs = [] := by cases fvs with
      | nil => rfl
      | cons _ _ => simp at e
    subst this
    exact ⟨rfl, .cons rd .nil⟩
  | n :: ns, ds, fvs, ok, e, r => by
    obtain ⟨p, l', rfl, e1, e2⟩ := map_cons_inv e
    obtain ⟨pn, pv⟩ := p
    have e4 : pn = attN n := e1
    subst e4
    rw [List.map_cons] at r
    match ds, r with
    | x :: ds, .cons r1 r2 =>
      unfold fldOk at ok
      rw [List.all_cons, Bool.and_eq_true, Bool.and_eq_true] at ok
      unfold putF putN putD
      cases q : n == f with
      | true =>
        have e3 : n = f := by simpa using q
        subst e3
        rw [if_pos rfl]
        exact ⟨by simp [e2], .cons rd r2⟩
      | false =>
        have ne : n ≠ f := by simpa using q
        rw [if_neg (attN_ne ok.2.1 ok.1 ne)]
        obtain ⟨a, b⟩ := put_fld rd (fvs := l') (by unfold fldOk; rw [ok.1, ok.2.2]; rfl) e2 r2
        exact ⟨by simp only [List.map_cons, a], .cons r1 b⟩
theorem pures_map {K : Frag} {G : Addr → Prop} {H : Hp} : ∀ {os : List O} {ds : List D}, O.fz.pures os = some ds → os = ds.map .pure
  | [], ds, h => by simp [O.fz.pures] at h; subst h; rfl
  | .pure d :: os, ds, h => by
    simp only [O.fz.pures, Option.map_eq_some_iff] at h
    obtain ⟨es, e, rfl⟩ := h
    rw [List.map_cons, ← pures_map (K := K) (G := G) (H := H) e]
  | .lst _ :: _, _, h => by simp [O.fz.pures] at h
  | .dct _ _ :: _, _, h => by simp [O.fz.pures] at h
  | .ins _ _ _ _ :: _, _, h => by simp [O.fz.pures] at h
section
variable {X : Cx} {G : Addr → Prop} {B : Hp} {Wz : WZ} {k j : Nat} {e o a b c : Expr} {es : List Expr} {t to : ZT} {pos apos cpos p : Pos} {σ : St} {H : Hp} {ss : SS}
theorem Sm.insW {K : Frag} (S : Sm K G B [] σ H ss) {i a0 c : Nat} {ns : List Nat} {os : List O} {ds : List D} (h : ss[i]? = some (some (.ins a0 c ns os))) (hp : O.fz.pures os = some ds) : ∃ C dx fvs, σ[i]? = some (some (.ref a0)) ∧ ClsAt K c C ∧ H a0 = some (.ins C dx fvs) ∧ fvs.map (·.1) = ns.map attN ∧
    DRs K G H (fvs.map (·.2)) ds ∧ ∀ fvs' ns' ds', fvs'.map (·.1) = ns'.map attN → DRs K G H (fvs'.map (·.2)) ds' → Sm K G B [] σ (upd H a0 (.ins C dx fvs')) (ss.set i (some (.ins a0 c ns' (ds'.map .pure)))) ∧ Kp H (upd H a0 (.ins C dx fvs')) := by
  obtain ⟨v, as, e, r, nd, S1⟩ := S.take h
  cases r with
  | @ins _ C dx _ fvs _ _ as' hc h1 h2 h3 =>
    obtain ⟨e2, r2⟩ := pures_or h3 hp
    subst e2
    refine ⟨C, dx, fvs, e, hc, h1, h2, r2, fun fvs' ns' ds' g1 g2 => ?_⟩
    have kp : Kp H (upd H a0 (.ins C dx fvs')) := Kp.upd h1 trivial
    have S2 : Sm K G B [a0] σ (upd H a0 (.ins C dx fvs')) (ss.set i none) := by
      obtain ⟨A, W⟩ := S1.own
      refine ⟨fun b o eb => ?_, ⟨A, fun j o eb => ?_, W.nd, W.ap, W.fr, W.off⟩, S1.nn, S1.gb, S1.len⟩
      · rw [upd_ne (ne_of_none eb (S1.nn a0 (by simp)))]
        exact S1.keep b o eb
      · obtain ⟨w, e1, r1⟩ := W.at_ j o eb
        exact ⟨w, e1, r1.kp kp fun b hb => upd_ne fun q => (W.fr j b hb).2 (by simp [q])⟩
    have S3 := S2.put (o := .ins a0 c ns' (ds'.map .pure)) e (.ins hc upd_same g1 (ORs_pure (g2.kp kp))) (by simp)
    rw [List.set_set] at S3
    exact ⟨S3, kp⟩
def zPut (cs : List Nat) (f i : Nat) (t : ZT) : ZTS := fun D ss => zF t ss fun d s => match s[i]? with
  | some (some (.ins a c ns os)) => match O.fz.pures os with
    | some ds => Sd ((cs.contains c && fldOk f ns && decide (ns.length < 900)) = true) ∧ D.nx (s.set i (some (.ins a c (putN f ns) ((putD f d ns ds).map .pure))))
    | none => False
  | _ => False
theorem s_put {cs : List Nat} {f i : Nat} {x m : Str} {np tp spos : Pos} (he : ZE X G B e t) (fo : FldOk X.K f cs) (hN : X.N[i]? = some x := by rfl) (hv : Vis X.env.scope x := by first | exact Or.inl rfl | exact Or.inr (Or.inl rfl) | exact Or.inr (Or.inr rfl))
    (hm : m = attN f := by rfl) (hd : (x == ("__debug__" : Str)) = false := by decide) (hcd : (x == ("__classdict__" : Str)) = false := by decide) (hs : swapsWith e (some (.Attribute (.Name x np) m tp)) spos.line X.env = pure false := by rfl) :
    ZS X G B (.Assign [.Attribute (.Name x np) m tp] e spos) (zPut cs f i t) := by
  obtain ⟨te, p, z⟩ := z_fz he
  refine ⟨_, ps_fld (pe_var hN hv hd hcd) p hs, fun σ H ss D D' S hw ok => ?_⟩
  subst hm
  refine z σ H ss _ _ S hw fun v H1 d s1 k1 S1 rd q => ?_
  cases es : s1[i]? with
  | none => simp only [es] at q
  | some oo =>
    cases oo with
    | none => simp only [es] at q
    | some o =>
      cases o with
      | pure d => simp only [es] at q
      | lst d => simp only [es] at q
      | dct d e => simp only [es] at q
      | ins a0 c ns os =>
        simp only [es] at q
        cases ep : O.fz.pures os with
        | none => simp only [ep] at q
        | some ds =>
          simp only [ep] at q
          obtain ⟨C, dx, fvs, e1, hc, h1, h2, h3, up⟩ := S1.insW es ep
          have sd := q.1.h
          simp only [Bool.and_eq_true] at sd
          obtain ⟨cl, na⟩ := fo.at sd.1.1 hc
          obtain ⟨p1, p2⟩ := put_fld (f := f) rd sd.1.2 h2 h3
          obtain ⟨S2, k2⟩ := up _ _ _ p1 p2
          have hl : fvs.length < 1000 := by
            have := congrArg List.length h2
            rw [List.length_map, List.length_map] at this
            have := of_decide_eq_true sd.2
            omega
          exact ⟨_, e1, a0, C, dx, fvs, rfl, h1, cl, na, hl, ok.nx σ _ _ (k1.trans k2) S2 q.2⟩
end
/-! ## __init__ -/
def delH (H : Hp) (a : Addr) : Hp := fun b => if b = a then none else H b
def initK (a0 c : Nat) (Qz : List Nat → List D → Prop) : SS → Prop := fun s => match s with
  | some (.ins a c' ns os) :: _ => match O.fz.pures os with
    | some ds => (a = a0 ∧ c' = c) ∧ Qz ns ds
    | none => False
  | _ => False
theorem args_smI {K : Frag} {G : Addr → Prop} {H : Hp} {N : List Str} {vs : List V} {ds : List D} {a c C dx : Nat} (hc : ClsAt K c C) (ha : H a = some (.ins C dx [])) (hn : ¬ G a) (hg : ∀ a, G a → ∃ o, H a = some o) (r : DRs K G H vs ds) (hl : ds.length + 1 ≤ N.length) :
    Sm K G (delH H a) [] (L2.start N (.ref a :: vs)) H (some (.ins a c [] []) :: args ds (N.length - 1)) := by
  have S0 : Sm K G H [] (L2.start N (.ref a :: vs)) H (args (.adr a :: ds) N.length) := args_sm hg (.cons (.adr a) r) (by simp; omega)
  obtain ⟨A, W⟩ := S0.own
  have e0 : args (.adr a :: ds) N.length = some (.pure (.adr a)) :: args ds (N.length - 1) := by
    unfold args
    rw [argS_map, argS_map, List.map_cons, List.cons_append, List.length_cons]
    congr 3
    omega
  have hA : ∀ i, A i = [] := fun i => by
    cases e : A i with
    | nil => rfl
    | cons b bs =>
      exfalso
      have hb : b ∈ A i := by rw [e]; simp
      by_cases q : ∃ o, (args (.adr a :: ds) N.length)[i]? = some (some o)
      · obtain ⟨o, ho⟩ := q
        have hp : ∃ d, o = .pure d := by
          unfold args at ho; rw [argS_map] at ho
          by_cases hi : i < (D.adr a :: ds).length
          · rw [List.getElem?_append_left (by simpa using hi), List.getElem?_map] at ho
            cases e2 : (D.adr a :: ds)[i]? with
            | none => rw [e2] at ho; cases ho
            | some d => rw [e2] at ho; cases ho; exact ⟨d, rfl⟩
          · rw [List.getElem?_append_right (by simpa using hi)] at ho
            rw [List.getElem?_replicate] at ho
            split at ho <;> cases ho
        obtain ⟨d, rfl⟩ := hp
        obtain ⟨v, _, ro⟩ := W.at_ i _ ho
        rw [e] at ro
        cases ro
      · have := W.off i fun o ho => q ⟨o, ho⟩
        rw [e] at this; cases this
  refine ⟨fun b o e => ?_, ⟨fun i => if i = 0 then [a] else [], fun i o h => ?_, fun i => ?_, fun i j b h1 h2 => ?_, fun i b h => ?_, fun i q => ?_⟩, fun b h => by simp at h, fun b g => ?_, ?_⟩
  · unfold delH at e
    by_cases q : b = a
    · rw [if_pos q] at e; cases e
    · rw [if_neg q] at e; exact e
  · cases i with
    | zero =>
      simp at h; subst h
      exact ⟨.ref a, by simp [L2.start], .ins hc ha rfl .nil⟩
    | succ i =>
      rw [List.getElem?_cons_succ] at h
      obtain ⟨v, e1, ro⟩ := W.at_ (i + 1) o (by rw [e0, List.getElem?_cons_succ]; exact h)
      rw [hA] at ro
      exact ⟨v, e1, ro⟩
  · by_cases q : i = 0 <;> simp [q]
  · by_cases q1 : i = 0
    · by_cases q2 : j = 0
      · omega
      · simp [q2] at h2
    · simp [q1] at h1
  · by_cases q1 : i = 0
    · simp [q1] at h; subst h
      exact ⟨by unfold delH; rw [if_pos rfl], by simp⟩
    · simp [q1] at h
  · by_cases q1 : i = 0
    · subst q1; exact absurd (by simp) (q (.ins a c [] []))
    · simp [q1]
  · obtain ⟨o, h⟩ := hg b g
    refine ⟨o, ?_⟩
    unfold delH
    rw [if_neg (show ¬ b = a from fun e => hn (by subst e; exact g))]; exact h
  · have := S0.len
    rw [e0] at this
    simpa using this
theorem fn_zI {P : Program} {w : World} {K : Frag} {mg : Str → Option Value} {base : Heap} {qual : Str} {bd : List Stmt} {sc : Scope} {f : Addr} {fd : FuncData} {N ps : List Str} {k c : Nat} {fs : FSI}
    (F : ∀ (sp : Sp), (∀ vs H Q E, sp vs H Q E → vs.length = ps.length) →
      (∀ (cdv : Value) (A : Around) (outer : List Env) (s : Shared) (H : Hp) (vs : List V) (Q : VK) (E : XK), Room k (A.deeper (PyProof.Rows.envOfC qual sc s.heap.objs.size f cdv)) → sp vs H Q E →
        ∃ t, PSs (cxOf (L2.CX P w) P w K mg base N qual sc f cdv A outer s H E) bd t ∧ t { nx := fun _ H' => Q .non H', rt := Q } (start N vs) H) → FnOk P w K mg base (L2.CX P w) (k + 1) f fd ps sp) (S : FnScope N ps sc)
    (hl : ∀ ds Q E, fs ds Q E → ds.length + 1 = ps.length) (zs : WZ → ZTS)
    (body : ∀ (cdv : Value) (A : Around) (outer : List Env) (s : Shared) (H : Hp) (E : XK) (G : Addr → Prop) (B : Hp) (Wz : WZ), Ctx (cxOf (L2.CX P w) P w K mg base N qual sc f cdv A outer s H E) G B Wz k →
      ZSs (cxOf (L2.CX P w) P w K mg base N qual sc f cdv A outer s H E) G B bd (zs Wz))
    (read : ∀ a ds Qz Ez, fs ds Qz Ez → zs (fun cls ns es _ => Ez cls ns es) ⟨initK a c Qz, fun _ _ => False, fun _ => False, fun _ => False⟩ (some (.ins a c [] []) :: args ds (N.length - 1))) :
    FnOk P w K mg base (L2.CX P w) (k + 1) f fd ps (toSpI K c fs) := by
  have hlen : ∀ vs H Q E, toSpI K c fs vs H Q E → vs.length = ps.length := fun vs H Q E ⟨G, a, C, dx, ws, ds, Qz, Ez, e, _, _, _, _, hd, hf, _⟩ => by subst e; rw [List.length_cons, hd.length]; exact hl ds Qz Ez hf
  have hps : ps.length ≤ N.length := by have := congrArg List.length S.pre; rw [List.length_take] at this; omega
  refine F _ hlen fun cdv A outer s H vs Q E hr hsp => ?_
  obtain ⟨G, a, C, dx, ws, ds, Qz, Ez, e, ha, hc, hna, hg, hd, hf, hq, he⟩ := hsp
  subst e
  have kp : ∀ {H' : Hp}, Same (delH H a) H' → ∀ b o, b ≠ a → H b = some o → H' b = some o := fun {H'} sm b o ne e => sm b o (by unfold delH; rw [if_neg ne]; exact e)
  have C' : Ctx (cxOf (L2.CX P w) P w K mg base N qual sc f cdv A outer s H E) G (delH H a) (fun cls ns es _ => Ez cls ns es) k :=
    ⟨hr, S.nd, rfl, passes_of rfl, ⟨_, takes_of rfl rfl rfl rfl, fun σ H' ss cls d c ns es S' xr w => he cls d H' c ns es (kp S'.keep) xr w⟩⟩
  obtain ⟨ts, p, r⟩ := body cdv A outer s H E G (delH H a) _ C'
  have hle : ds.length + 1 ≤ N.length := by rw [hl ds Qz Ez hf]; exact hps
  refine ⟨ts, p, r _ H _ _ _ (args_smI hc ha hna hg hd hle) (read a ds Qz Ez hf) ⟨fun σ' H' ss' k S' q => ?_, fun _ _ _ _ _ _ _ q => q.elim, fun _ _ _ _ _ q => q.elim, fun _ _ _ _ _ q => q.elim⟩⟩
  have q0 : initK a c Qz ss' := q
  clear q
  unfold initK at q0
  match ss', S', q0 with
  | some (.ins a' c' ns os) :: rest, S', q0 =>
    cases ep : O.fz.pures os with
    | none => simp only [ep] at q0
    | some es =>
      simp only [ep] at q0
      obtain ⟨⟨e1, e2⟩, q2⟩ := q0
      subst e1
      subst e2
      obtain ⟨C2, dx2, fvs, _, hc2, h1, h2, h3, _⟩ := S'.insW (i := 0) rfl ep
      cases ClsAt.eq hc hc2
      exact hq H' dx2 fvs ns es (kp S'.keep) h1 h2 h3 q2

/-! ## t > u of two tuples of whole numbers -/
def lexGt (ns ms : List Int) : Bool := Ob.lexAt (fun j => decide (ns.getD j 0 = ms.getD j 0)) (fun j => decide (ms.getD j 0 < ns.getD j 0)) (decide (ms.length < ns.length)) 0 (min ns.length ms.length)
def rGtT (K : Frag) : R2 := fun x y H Q => ∃ (a b : Addr) (ns ms : List Int), x = .ref a ∧ y = .ref b ∧ SqT K H a (ns.map V.int) ∧ SqT K H b (ms.map V.int) ∧ Q (.bl (lexGt ns ms)) H
theorem op_gtT {X : Cx} (hu : X.A.units < cLine) : OpR X (compareOp .Gt) (rGtT X.K) := by
  intro pins s σ H x y v u Q I rx ry h
  obtain ⟨a, b, ns, ms, rfl, rfl, ha, hb, q⟩ := h
  cases rx
  cases ry
  obtain ⟨its, r1, p1, _⟩ := I.tuple ha
  obtain ⟨its2, r2, p2, _⟩ := I.tuple hb
  have i1 : PyProof.Rows.IntsAre its ns := Vals.ints r1
  have i2 : PyProof.Rows.IntsAre its2 ms := Vals.ints r2
  have e1 : its.toArray.size = ns.length := by rw [List.size_toArray]; exact i1.length
  have e2 : its2.toArray.size = ms.length := by rw [List.size_toArray]; exact i2.length
  have at1 : ∀ j (h1 : j < its.toArray.size), ∃ t, its.toArray[j] = .int (ns.getD j 0) t := fun j h1 => PyProof.Rows.IntsAre.int_at i1 _ _ (by simp at h1; simp [h1])
  have at2 : ∀ j (h1 : j < its2.toArray.size), ∃ t, its2.toArray[j] = .int (ms.getD j 0) t := fun j h1 => PyProof.Rows.IntsAre.int_at i2 _ _ (by simp at h1; simp [h1])
  have R := Ob.RcOp.tuples_gt (A := X.A) (s := s) (e := fun j => decide (ns.getD j 0 = ms.getD j 0)) (r := fun j => decide (ms.getD j 0 < ns.getD j 0)) p1 p2 hu (fun j h1 h2 => by
    obtain ⟨t, et⟩ := at1 j h1
    obtain ⟨t', et'⟩ := at2 j h2
    rw [et, et']
    have z : (ns.getD j 0 == ms.getD j 0) = decide (ns.getD j 0 = ms.getD j 0) := by
      by_cases q : ns.getD j 0 = ms.getD j 0
      · rw [decide_eq_true q]; exact beq_iff_eq.mpr q
      · rw [decide_eq_false q]; exact beq_eq_false_iff_ne.mpr q
    rw [← z]
    exact SeqAt.EqAt.int_int _ _ _ _) (fun j h1 h2 _ => by
    obtain ⟨t, et⟩ := at1 j h1
    obtain ⟨t', et'⟩ := at2 j h2
    rw [et, et']
    exact Ob.RcOp.gt_int _ _ _ _)
  rw [e1, e2] at R
  have z : wpAny (model X.prog X.w) X.A (compareOp .Gt (.ref a) (.ref b)) (EP X pins σ Q) X.xe s := R X.prog X.w X.xe (EP X pins σ Q) ⟨.bl _, H, I, rfl, q⟩
  exact z
section
variable {X : Cx} {G : Addr → Prop} {B : Hp} {Wz : WZ} {k j : Nat} {e o a b c : Expr} {es : List Expr} {t to : ZT} {ts : ZTA} {pos apos cpos p : Pos}
/-- > of whole numbers, or of tuples of them -/
def zGtX : Z2 := fun x y Q => match x, y with
  | .int i, .int j => Q (.d (.bl (decide (j < i))))
  | .tup xs, .tup ys => ∃ ns ms : List Int, (xs = ns.map .int ∧ ys = ms.map .int) ∧ Q (.d (.bl (lexGt ns ms)))
  | _, _ => False
theorem oz_gtX (hu : X.A.units + 64 < cLine) : OpZ X (compareOp .Gt) zGtX := by
  refine ⟨_, OpR.or op_gt (op_gtT (Nat.lt_of_le_of_lt (Nat.le_add_right _ _) hu)), fun G H x y dx dy Q R hx hy q fin => ?_⟩
  unfold zGtX at q
  cases dx with
  | int i =>
    cases dy with
    | int j =>
      obtain rfl := hx.i; obtain rfl := hy.i
      exact .inl ⟨i, j, rfl, rfl, fin _ H _ (rs_d (.bl _)) q⟩
    | _ => exact q.elim
  | tup xs =>
    cases dy with
    | tup ys =>
      obtain ⟨ns, ms, ⟨rfl, rfl⟩, q⟩ := q
      cases hx with
      | d hx =>
        cases hy with
        | d hy =>
          cases hx with
          | @tup a1 ws1 _ h1 h2 =>
            cases hy with
            | @tup a2 ws2 _ g1 g2 =>
              obtain rfl := h2.ints
              obtain rfl := g2.ints
              exact .inr ⟨a1, a2, ns, ms, rfl, rfl, h1, g1, fin _ H _ (rs_d (.bl _)) q⟩
    | _ => exact q.elim
  | _ => cases dy <;> exact q.elim
/-! ## methods that only read -/
def D.fl : D → Bool
  | .non => true
  | .bl _ => true
  | .int _ => true
  | .str _ => true
  | _ => false
theorem DR.fl {K : Frag} {H : Hp} {v : V} {d : D} (h : DR K G H v d) (f : d.fl = true) : flatV v = true := by
  cases h <;> first | rfl | (simp [D.fl] at f)
theorem DR.eqf {K : Frag} {H : Hp} {v w : V} {d d' : D} (h : DR K G H v d) (h' : DR K G H w d') (f : d.fl = true) (f' : d'.fl = true) : eqV v w = D.eq d d' := by
  cases h <;> first | (simp [D.fl] at f; done) | (cases h' <;> first | (simp [D.fl] at f'; done) | rfl | (simp only [eqV, D.eq]; rfl) | (simp only [eqV, D.eq]; exact Bool.eq_iff_iff.mpr (by simp)))
/-- the first place of y -/
def D.idx (y : D) : List D → Option Nat
  | [] => none
  | x :: xs => match D.eq x y with
    | true => some 0
    | false => (D.idx y xs).map (· + 1)
theorem DRs.fls {K : Frag} {H : Hp} : ∀ {ds : List D} {vs : List V}, DRs K G H vs ds → ds.all D.fl = true → vs.all flatV = true
  | [], _, h, _ => by cases h; rfl
  | d :: ds, _, h, f => by
    cases h with
    | cons a b =>
      rw [List.all_cons, Bool.and_eq_true] at f
      rw [List.all_cons, a.fl f.1, DRs.fls b f.2]; rfl
theorem DRs.idx {K : Frag} {H : Hp} {w : V} {y : D} (rw_ : DR K G H w y) (fy : y.fl = true) : ∀ {ds : List D} {vs : List V} {j : Nat}, DRs K G H vs ds → ds.all D.fl = true → D.idx y ds = some j →
    ∃ z, vs[j]? = some z ∧ eqV z w = true ∧ ∀ m z', m < j → vs[m]? = some z' → eqV z' w = false
  | [], _, _, h, _, e => by cases e
  | d :: ds, _, j, h, f, e => by
    cases h with
    | @cons v _ vs _ a b =>
      rw [List.all_cons, Bool.and_eq_true] at f
      have ev := a.eqf rw_ f.1 fy
      unfold D.idx at e
      cases q : D.eq d y with
      | true =>
        rw [q] at e; cases e
        exact ⟨v, rfl, by rw [ev, q], fun m z' hm _ => by omega⟩
      | false =>
        rw [q] at e
        cases e2 : D.idx y ds with
        | none => rw [e2] at e; cases e
        | some i =>
          rw [e2] at e; cases e
          obtain ⟨z, h1, h2, h3⟩ := DRs.idx rw_ fy b f.2 e2
          refine ⟨z, by rw [List.getElem?_cons_succ]; exact h1, h2, fun m z' hm hz => ?_⟩
          cases m with
          | zero => rw [List.getElem?_cons_zero] at hz; cases hz; rw [ev, q]
          | succ m => rw [List.getElem?_cons_succ] at hz; exact h3 m z' (Nat.lt_of_succ_lt_succ hm) hz
/-- a method of T that only reads, on the receiver and the arguments -/
def MqZ (X : Cx) (id : String) (z : ZL) : Prop := ∃ r, MtR X id r ∧ ∀ (G : Addr → Prop) (H : Hp) (x : V) (xs : List V) (ds : List D) (Q : RV → Prop) (R : VK), VRs X.K G H (x :: xs) ds → z ds Q → (∀ v H' rv, RS X.K G H H' v rv → Q rv → R v H') → r x xs H R
/-- T by number: 0 list, 1 str -/
def kdN : Nat → String
  | 0 => "list"
  | _ => "str"
def D.kd : D → Nat → Bool
  | .lst _ _, 0 => true
  | .str _, 1 => true
  | _, _ => false
def zMq (n : Nat) (z : ZL) (to : ZT) (ts : ZTA) : ZT := fun ss Q => zN to ss fun r s1 => match cv s1 r with
  | some d => match d.kd n with
    | true => ts s1 fun rs s2 => match cvs s2 (r :: rs) with
      | some ds => z ds fun r => Q r s2
      | none => False
    | false => False
  | none => False
theorem kd_ty {K : Frag} {H : Hp} {v : V} {d : D} {n : Nat} (h : VR K G H v d) (e : d.kd n = true) : tyV K (kdN n) v H := by
  cases d with
  | lst m xs =>
    match n, e with
    | 0, _ =>
      obtain ⟨a, ws, rfl, hq, _⟩ := h.sq
      exact .inl ⟨rfl, ws, hq⟩
  | str s =>
    match n, e with
    | 1, _ =>
      cases h with
      | d h => cases h; rfl
  | _ => cases n with
    | zero => simp [D.kd] at e
    | succ n => cases n <;> simp [D.kd] at e
theorem mq_zr {n : Nat} {z : ZL} {r} {te : TE} {ta : TA} (hz : Zr X.K G B te (zN to)) (ht : ZrA X.K G B ta ts)
    (hr : ∀ (G : Addr → Prop) (H : Hp) (x : V) (xs : List V) (ds : List D) (Q : RV → Prop) (R : VK), VRs X.K G H (x :: xs) ds → z ds Q → (∀ v H' rv, RS X.K G H H' v rv → Q rv → R v H') → r x xs H R) :
    Zr X.K G B (tBM X.K (kdN n) r te ta) (zMq n z to ts) := by
  intro σ H ss Q R S hw fin
  refine hz σ H ss _ _ S hw fun v H1 rv s1 k1 rr q => ?_
  cases e1 : cv s1 rv with
  | none => simp only [e1] at q
  | some d =>
    simp only [e1] at q
    cases e2 : d.kd n with
    | false => simp only [e2] at q
    | true =>
      simp only [e2] at q
      refine ⟨kd_ty (cv_vr rr.sem (Kp.refl _) rr e1) e2, ?_⟩
      refine ht σ H1 s1 _ _ rr.sem q fun vs H2 rs s2 k2 S2 ar q2 => ?_
      cases e3 : cvs s2 (rv :: rs) with
      | none => simp only [e3] at q2
      | some ds =>
        simp only [e3] at q2
        have ar2 : AR X.K G σ H2 (v :: vs) (rv :: rs) := by
          cases rv with
          | d x => exact ⟨rr.2.kp k2, ar⟩
          | loc i => exact ⟨rr.2, ar⟩
          | new o => simp [cv] at e1
        exact hr G H2 v vs ds _ _ (cvs_vr S2 ar2 e3) q2 fun v' H3 rv' rs' qq => fin v' H3 rv' s2 ((k1.trans k2).trans (Kp.of rs'.same)) (rs'.rr S2) qq
theorem z_mq (n : Nat) {id : String} {z : ZL} {name : Str} (hm : MqZ X id z) (pa : PlainAttrs (kdN n)) (slot : Slot (kdN n) name id) (hty : typeOf (.builtin id) = pure (.type "method_descriptor")) (ho : ZE X G B o to) (ha : ZA X G B (e :: es) ts)
    (hbase : attributeBase o name X.env (eval o X.env) = eval o X.env := by rfl)
    (hfew : ((backTo cpos (starEach (e :: es) X.env)).all (fun x => !x.1) && (backToKw cpos (keywordEach [] X.env)).all (fun x => x.1.isSome)
      && decide ((e :: es).length + ([] : List Keyword).length + (if ([] : List Keyword).isEmpty then 0 else 1) < 30)) = true := by rfl)
    (hline : (apos.endLine == cpos.line) = true := by rfl) (hs : starEach (e :: es) X.env = (false, eval e X.env) :: starEach es X.env := by rfl) (hplain : (backTo cpos (starEach es X.env)).any (·.1) = false := by rfl) :
    ZE X G B (.Call (.Attribute o name apos) (e :: es) [] cpos) (zMq n z to ts) := by
  obtain ⟨r, h1, h2⟩ := hm
  obtain ⟨te, pt, zt⟩ := z_n ho
  obtain ⟨ta, pta, zta⟩ := ha
  exact ⟨_, pe_bm pa slot hty h1 pt pta hbase hfew hline hs hplain, mq_zr zt zta h2⟩
theorem z_mq0 (n : Nat) {id : String} {z : ZL} {name : Str} (hm : MqZ X id z) (pa : PlainAttrs (kdN n)) (slot : Slot (kdN n) name id) (hty : typeOf (.builtin id) = pure (.type "method_descriptor")) (ho : ZE X G B o to)
    (hbase : attributeBase o name X.env (eval o X.env) = eval o X.env := by rfl) (hline : (apos.endLine == cpos.line) = true := by rfl) :
    ZE X G B (.Call (.Attribute o name apos) [] [] cpos) (zMq n z to zaNil) := by
  obtain ⟨r, h1, h2⟩ := hm
  obtain ⟨te, pt, zt⟩ := z_n ho
  have hz := mq_zr (n := n) (ta := tNil) (ts := zaNil) zt (fun σ H ss Q R S hw fin => fin [] H [] ss (Kp.refl H) S trivial hw) h2
  exact ⟨_, pe_bm0 pa slot hty h1 pt hbase hline, hz⟩
theorem VRs.ref {K : Frag} {H : Hp} {x : V} {xs : List V} {d : D} {ds : List D} (h : VRs K G H (x :: xs) (d :: ds)) : VR K G H x d ∧ VRs K G H xs ds := by cases h with | cons a b => exact ⟨a, b⟩
/-- xs.index(y) of flat items, y among them -/
def zIndexC : ZL := fun ds Q => match ds with
  | [.lst _ xs, y] => Sd ((y.fl && xs.all D.fl) = true) ∧ ∃ j, D.idx y xs = some j ∧ Q (.d (.int (j : Nat)))
  | _ => False
theorem mq_index : MqZ X "list.index" zIndexC := by
  refine ⟨_, mt_index, fun G H x xs ds Q R h q fin => ?_⟩
  match ds, h, q with
  | [.lst m es, y], h, q =>
    obtain ⟨sd, j, hj, q⟩ := q
    have sd := (Bool.and_eq_true _ _).mp sd.h
    obtain ⟨h1, h2⟩ := h.ref
    obtain ⟨w, rfl, ry⟩ := h2.one
    obtain ⟨a, ws, rfl, hq, rr⟩ := h1.sq
    have ry' : DR X.K G H w y := by
      cases ry with
      | d r => exact r
      | l _ _ => simp [D.fl] at sd
      | k _ _ _ => simp [D.fl] at sd
    obtain ⟨z, z1, z2, z3⟩ := rr.idx ry' sd.1 sd.2 hj
    exact ⟨a, ws, w, j, z, rfl, rfl, hq, ry'.fl sd.1, rr.fls sd.2, z1, z2, z3, fin _ H _ (rs_d (.int _)) q⟩
/-- xs.count(n) of whole numbers -/
def zCountC : ZL := fun ds Q => ∃ (m : Nat) (ns : List Int) (k : Int), ds = [.lst m (ns.map .int), .int k] ∧ Q (.d (.int (ns.count k : Nat)))
theorem mq_count : MqZ X "list.count" zCountC := by
  refine ⟨_, mt_lcount, fun G H x xs ds Q R h q fin => ?_⟩
  obtain ⟨m, ns, k, rfl, q⟩ := q
  obtain ⟨h1, h2⟩ := h.ref
  obtain ⟨w, rfl, ry⟩ := h2.one
  obtain ⟨a, ws, rfl, hq, rr⟩ := h1.sq
  obtain rfl := rr.ints
  obtain rfl := ry.i
  exact ⟨a, ns, k, rfl, rfl, hq, fin _ H _ (rs_d (.int _)) q⟩
end

/-! ## the classes of the top -/
structure MethAt (K : Frag) (x qual : Str) (st : Stmt) (ps : List Str) (f : Addr) (fd : FuncData) : Prop where
  F : Fun K x qual st f fd
  b : Binds K fd ps []
/-- an __init__ whose last parameter may lack -/
structure InitAt (K : Frag) (x qual : Str) (st : Stmt) (ps : List Str) (f : Addr) (fd : FuncData) : Prop where
  F : FunD K x qual (defArgs st) (defBody st) (defScope st) [.non] [] f fd
  b : Binds K fd ps []
  b1 : Binds K fd ps [.none]
theorem cls_uniq {K : Frag} {x : Str} {C D : Addr} (h : PySem.W.nsIn K mainGlobals x = some (some (.ref C))) (g : PySem.W.nsIn K mainGlobals x = some (some (.ref D))) : C = D := by
  have := Eq.trans (Eq.symm h) g
  cases this; rfl
section
variable {K : Frag} {x : Str} {C f : Addr}
theorem cls_at (a : PySem.W.nsIn K mainGlobals x = some (some (.ref C))) (pg : PySem.W.plainGet K C Str.empty = true) (hd : PySem.W.hasDictIn K C = true) (po : PySem.W.plainOver K C = true)
    (sa : PySem.W.findIn K (.ref C) "__setattr__" = some (some (.builtin "object.__setattr__"))) (kc : PySem.W.keepIn K (.ref C) = true) : ∃ C, PySem.W.nsIn K mainGlobals x = some (some (.ref C)) ∧ Cls K C ∧ PySem.W.keepIn K (.ref C) = true := ⟨C, a, ⟨pg, hd, po, sa⟩, kc⟩
theorem new_at (a : PySem.W.nsIn K mainGlobals x = some (some (.ref C))) (mk : PySem.W.makesIn K C = true) (oi : PySem.W.findIn K (.ref C) "__init__" = some (some (.builtin "object.__init__"))) :
    ∃ C, PySem.W.nsIn K mainGlobals x = some (some (.ref C)) ∧ PySem.W.makesIn K C = true ∧ PySem.W.findIn K (.ref C) "__init__" = some (some (.builtin "object.__init__")) := ⟨C, a, mk, oi⟩
theorem noat_at {m : Str} (a : PySem.W.nsIn K mainGlobals x = some (some (.ref C))) (n : PySem.W.findIn K (.ref C) m = some none) : ∃ C, PySem.W.nsIn K mainGlobals x = some (some (.ref C)) ∧ NoAttr K C m := ⟨C, a, n⟩
variable {m qual : Str} {st : Stmt} {ps : List Str} {oc : Value} {od an : Option Addr} {osl : Array (Option Value)} {kV doc pm cdv ct : Value}
theorem meth_at (hb : ∀ (kV doc pm : Value) (an : Option Addr) (cdv ct : Value) (us : List Value), us.length = ps.length → bindArgs (PySem.W.fnOf m qual (defArgs st) (defBody st) (defScope st) .none kV doc pm an cdv ct) ⟨us, []⟩ = pure (ps.zip us))
    (a : PySem.W.nsIn K mainGlobals x = some (some (.ref C))) (g : PySem.W.findIn K (.ref C) m = some (some (.ref f))) (i : PySem.W.isFn K (.ref f) = true)
    (l : K.lookup f = some ⟨oc, od, .func (PySem.W.fnOf m qual (defArgs st) (defBody st) (defScope st) .none kV doc pm an cdv ct), osl⟩) (c : PySem.W.codeIn K cdv qual = true) (k : PySem.W.keepIn K (.ref f) = true) :
    ∃ C f fd, PySem.W.nsIn K mainGlobals x = some (some (.ref C)) ∧ Meth K C m f ∧ MethAt K m qual st ps f fd :=
  ⟨C, f, _, a, ⟨g, i, k⟩, fun_mk l c k, (fun_mk (st := st) l c k).binds hb⟩
theorem init_at (hb : ∀ (kV doc pm : Value) (an : Option Addr) (cdv ct : Value) (us : List Value), us.length = ps.length → bindArgs (PySem.W.fnOf "__init__" qual (defArgs st) (defBody st) (defScope st) .none kV doc pm an cdv ct) ⟨us, []⟩ = pure (ps.zip us))
    (a : PySem.W.nsIn K mainGlobals x = some (some (.ref C))) (mk : PySem.W.makesIn K C = true) (kc : PySem.W.keepIn K (.ref C) = true) (g : PySem.W.findIn K (.ref C) "__init__" = some (some (.ref f))) (i : PySem.W.isFn K (.ref f) = true)
    (l : K.lookup f = some ⟨oc, od, .func (PySem.W.fnOf "__init__" qual (defArgs st) (defBody st) (defScope st) .none kV doc pm an cdv ct), osl⟩) (c : PySem.W.codeIn K cdv qual = true) (k : PySem.W.keepIn K (.ref f) = true) :
    ∃ C f fd, PySem.W.nsIn K mainGlobals x = some (some (.ref C)) ∧ Mk K C f ∧ MethAt K "__init__" qual st ps f fd :=
  ⟨C, f, _, a, ⟨mk, g, i, kc⟩, fun_mk l c k, (fun_mk (st := st) l c k).binds hb⟩
theorem initD_at {T : Addr} {tc : Value} {td : Option Addr} {tn : Nat} {tsl : Array (Option Value)} {n : Nat} (hn : n + 1 = ps.length)
    (h0 : ∀ (T : Addr) (kV doc pm : Value) (an : Option Addr) (cdv ct : Value) (us its : List Value), us.length = n + 1 → its.length = 1 →
      ∃ k, bindArgs (PySem.W.fnOf "__init__" qual (defArgs st) (defBody st) (defScope st) (.ref T) kV doc pm an cdv ct) ⟨us, []⟩ = seqItems? (.ref T) >>= k ∧ k (some its.toArray) = pure (ps.zip (us ++ its.drop 1)))
    (h1 : ∀ (T : Addr) (kV doc pm : Value) (an : Option Addr) (cdv ct : Value) (us its : List Value), us.length = n → its.length = 1 →
      ∃ k, bindArgs (PySem.W.fnOf "__init__" qual (defArgs st) (defBody st) (defScope st) (.ref T) kV doc pm an cdv ct) ⟨us, []⟩ = seqItems? (.ref T) >>= k ∧ k (some its.toArray) = pure (ps.zip (us ++ its.drop 0)))
    (a : PySem.W.nsIn K mainGlobals x = some (some (.ref C))) (mk : PySem.W.makesIn K C = true) (kc : PySem.W.keepIn K (.ref C) = true) (g : PySem.W.findIn K (.ref C) "__init__" = some (some (.ref f))) (i : PySem.W.isFn K (.ref f) = true)
    (l : K.lookup f = some ⟨oc, od, .func (PySem.W.fnOf "__init__" qual (defArgs st) (defBody st) (defScope st) (.ref T) kV doc pm an cdv ct), osl⟩) (c : PySem.W.codeIn K cdv qual = true) (k : PySem.W.keepIn K (.ref f) = true)
    (t : K.lookup T = some ⟨tc, td, .seq #[.none] tn, tsl⟩) : ∃ C f fd, PySem.W.nsIn K mainGlobals x = some (some (.ref C)) ∧ Mk K C f ∧ InitAt K "__init__" qual st ps f fd := by
  have F : FunD K "__init__" qual (defArgs st) (defBody st) (defScope st) [.non] [] f (PySem.W.fnOf "__init__" qual (defArgs st) (defBody st) (defScope st) (.ref T) kV doc pm an cdv ct) :=
    ⟨⟨oc, od, .ref T, kV, doc, pm, an, cdv, ct, osl, rfl, l, c, .inr ⟨by simp, T, _, [.none], tn, rfl, t, rfl, .cons rfl .nil⟩, .inl rfl⟩, k⟩
  refine ⟨C, f, _, a, ⟨mk, g, i, kc⟩, F, ?_, ?_⟩
  · obtain ⟨ds, v, b⟩ := F.binds1 (ps := ps) (n + 1) 1 (by simp) (by simpa using hn) h0
    have : ds = [] := by cases v; rfl
    subst this; exact b
  · obtain ⟨ds, v, b⟩ := F.binds1 (ps := ps) n 0 (by simp) (by simpa using hn) h1
    have : ds = [.none] := by
      cases v with
      | cons r rs => cases rs; cases r; rfl
    subst this; exact b
end
/-! ## self.f as a target -/
section
variable {X : Cx} {G : Addr → Prop} {B : Hp} {pos np : Pos}
def gFld (K : Frag) (to : TE) (f : Str) : TG := fun v σ H Q => to σ H fun x H1 => ∃ a C dx fs, x = .ref a ∧ H1 a = some (.ins C dx fs) ∧ Cls K C ∧ NoAttr K C f ∧ fs.length < 1000 ∧ Q σ (upd H1 a (.ins C dx (putF f v fs)))
theorem pg_fld {o : Expr} {to : TE} {f : Str} (ho : PE X o to)
    (ha : ∀ v, assign (.Attribute o f pos) X.env v = (do
      let ov ← holding [v] (eval o X.env)
      standAt pos.atName
      holding [v, ov] (setAttr ov f v)
      release [v, ov] []) := by intro _; rfl) : PG X (.Attribute o f pos) (gFld X.K to f) := by
  refine ⟨fun pins s σ H v u Q I r h => ?_⟩
  rw [ha]
  refine wpAny_bind (wpAny_holding (thn (ho.run pins s σ H _ I h) fun ov s1 ⟨x, H1, I1, r1, a, C, dx, fs, ex, ea, c, n, l, q1⟩ => ?_))
  subst ex
  obtain rfl : ov = Value.ref a := r1
  refine wpAny_bind (wpAny_standAt (wpAny_bind (wpAny_holding (setattr_ok (I1.tok _) ea c n l r fun s3 I3 => ?_))))
  exact wpAny_release ⟨σ, _, I3, q1⟩
def gPut (cs : List Nat) (f i : Nat) : ZG1 := fun d s Q => match s[i]? with
  | some (some (.ins a c ns os)) => match O.fz.pures os with
    | some ds => Sd ((cs.contains c && fldOk f ns && decide (ns.length < 900)) = true) ∧ Q (s.set i (some (.ins a c (putN f ns) ((putD f d ns ds).map .pure))))
    | none => False
  | _ => False
theorem g_put {cs : List Nat} {f i : Nat} {x m : Str} (fo : FldOk X.K f cs) (hN : X.N[i]? = some x := by rfl) (hv : Vis X.env.scope x := by first | exact Or.inl rfl | exact Or.inr (Or.inl rfl) | exact Or.inr (Or.inr rfl))
    (hm : m = attN f := by rfl) (hd : (x == ("__debug__" : Str)) = false := by decide) (hcd : (x == ("__classdict__" : Str)) = false := by decide)
    (ha : ∀ v, assign (.Attribute (.Name x np) m pos) X.env v = (do
      let ov ← holding [v] (eval (.Name x np) X.env)
      standAt pos.atName
      holding [v, ov] (setAttr ov m v)
      release [v, ov] []) := by intro _; rfl) : ZG X G B (.Attribute (.Name x np) m pos) (gPut cs f i) := by
  refine ⟨_, pg_fld (pe_var hN hv hd hcd) ha, fun σ H ss v d Q R S rd q fin => ?_⟩
  subst hm
  unfold gPut at q
  cases es : ss[i]? with
  | none => simp only [es] at q
  | some oo =>
    cases oo with
    | none => simp only [es] at q
    | some o =>
      cases o with
      | pure d => simp only [es] at q
      | lst d => simp only [es] at q
      | dct d e => simp only [es] at q
      | ins a0 c ns os =>
        simp only [es] at q
        cases ep : O.fz.pures os with
        | none => simp only [ep] at q
        | some ds =>
          simp only [ep] at q
          obtain ⟨C, dx, fvs, e1, hc, h1, h2, h3, up⟩ := S.insW es ep
          have sd := q.1.h
          simp only [Bool.and_eq_true] at sd
          obtain ⟨cl, na⟩ := fo.at sd.1.1 hc
          obtain ⟨p1, p2⟩ := put_fld (f := f) rd sd.1.2 h2 h3
          obtain ⟨S2, k2⟩ := up _ _ _ p1 p2
          have hl : fvs.length < 1000 := by
            have := congrArg List.length h2
            rw [List.length_map, List.length_map] at this
            have := of_decide_eq_true sd.2
            omega
          exact ⟨_, e1, a0, C, dx, fvs, rfl, h1, cl, na, hl, fin σ _ _ k2 S2 q.2⟩
end

/-! ## a rest of a body that is read by itself -/
structure zTl (z : ZTS) (D : ZEnds) (ss : SS) : Prop where
  h : z D ss
def zTail (z : ZTS) : ZTS := fun D ss => zTl z D ss
theorem zs_tail {X : Cx} {G : Addr → Prop} {B : Hp} {l : List Stmt} {z : ZTS} (h : ZSs X G B l z) : ZSs X G B l (zTail z) := by
  obtain ⟨te, p, r⟩ := h
  exact ⟨te, p, fun σ H ss D D' S hw ok => r σ H ss D D' S hw.h ok⟩
/-! ## zip, enumerate, reversed (lists; frozen) -/
section
variable {X : Cx} {G : Addr → Prop} {B : Hp} {Wz : WZ} {k j : Nat} {e o a b c : Expr} {es : List Expr} {t to : ZT} {ts : ZTDs} {pos apos cpos p : Pos}
theorem SqL.at_eq {K : Frag} {H : Hp} {a : Addr} {xs : List V} (q : SqL K H a xs) : SqL K H a xs := q
def zipD (xs ys : List D) : List D := List.zipWith (fun x y => D.tup [x, y]) xs ys
def enD (xs : List D) : List D := (List.range xs.length).zipWith (fun (i : Nat) x => D.tup [.int (i : Int), x]) xs
theorem tupH {K : Frag} {H : Hp} {T : Addr} {x y : V} {d d' : D} (n : H T = none) (r : DR K G H x d) (r' : DR K G H y d') : Same H (upd H T (.tup [x, y])) ∧ DR K G (upd H T (.tup [x, y])) (.ref T) (.tup [d, d']) := by
  have sm : Same H (upd H T (.tup [x, y])) := fun b o e => by rw [upd_ne (ne_of_none e n)]; exact e
  exact ⟨sm, .tup (.inl (.inl upd_same)) (.cons (r.kp (Kp.of sm)) (.cons (r'.kp (Kp.of sm)) .nil))⟩
theorem itok_zip {K : Frag} {H : Hp} {a b : Addr} {xs ys : List V} {ds es : List D} (h : ∀ H1, Kp H H1 → SqL K H1 a xs) (h' : ∀ H1, Kp H H1 → SqL K H1 b ys) (r : DRs K G H xs ds) (r' : DRs K G H ys es) : ItOk K G (Itz K a b) (zipD ds es) H := by
  have hl : (zipD ds es).length = min ds.length es.length := by unfold zipD; rw [List.length_zipWith]
  refine ⟨fun H1 k i hi => ?_, fun H1 k i hi _ => ⟨xs, ys, h H1 k, h' H1 k, by rw [r.length, r'.length]; omega⟩⟩
  rw [hl] at hi
  have i1 : i < xs.length := by rw [r.length]; omega
  have i2 : i < ys.length := by rw [r'.length]; omega
  refine ⟨⟨xs, ys, xs[i], ys[i], h H1 k, h' H1 k, List.getElem?_eq_getElem i1, List.getElem?_eq_getElem i2⟩, fun v H2 y => ?_⟩
  obtain ⟨T, x, y, rfl, n, rfl, hx, hy⟩ := y
  obtain ⟨d, e1, rd⟩ := r.get' (hx xs (h H1 k))
  obtain ⟨d', e2, rd'⟩ := r'.get' (hy ys (h' H1 k))
  obtain ⟨sm, rt⟩ := tupH n (rd.kp k) (rd'.kp k)
  exact ⟨sm, _, by unfold zipD; rw [List.getElem?_zipWith, e1, e2], rt⟩
theorem itok_enum {K : Frag} {H : Hp} {a : Addr} {xs : List V} {ds : List D} (h : ∀ H1, Kp H H1 → SqL K H1 a xs) (r : DRs K G H xs ds) : ItOk K G (Ite K a) (enD ds) H := by
  have hl : (enD ds).length = ds.length := by unfold enD; rw [List.length_zipWith, List.length_range, Nat.min_self]
  refine ⟨fun H1 k i hi => ?_, fun H1 k i hi _ => ⟨xs, h H1 k, by rw [r.length]; omega⟩⟩
  rw [hl] at hi
  have i1 : i < xs.length := by rw [r.length]; omega
  refine ⟨⟨xs, xs[i], h H1 k, List.getElem?_eq_getElem i1⟩, fun v H2 y => ?_⟩
  obtain ⟨T, x, rfl, n, rfl, hx⟩ := y
  obtain ⟨d, e1, rd⟩ := r.get' (hx xs (h H1 k))
  obtain ⟨sm, rt⟩ := tupH n (.int (i : Nat)) (rd.kp k)
  exact ⟨sm, _, by unfold enD; rw [List.getElem?_zipWith, e1, List.getElem?_range hi], rt⟩
theorem itok_rev {K : Frag} {H : Hp} {a : Addr} {xs : List V} {ds : List D} (h : ∀ H1, Kp H H1 → SqL K H1 a xs) (r : DRs K G H xs ds) : ItOk K G (Itv K a xs.length) ds.reverse H := by
  refine ⟨fun H1 k i hi => ?_, fun H1 k i hi _ => by rw [List.length_reverse, ← r.length] at hi; exact hi⟩
  rw [List.length_reverse, ← r.length] at hi
  have i1 : xs.length - 1 - i < xs.length := by omega
  refine ⟨⟨hi, xs, xs[xs.length - 1 - i], h H1 k, List.getElem?_eq_getElem i1⟩, fun v H2 y => ?_⟩
  obtain ⟨rfl, hx⟩ := y
  obtain ⟨d, e1, rd⟩ := r.get' (hx xs (h _ k))
  refine ⟨Same.refl _, d, ?_, rd.kp k⟩
  rw [List.getElem?_reverse (by rw [← r.length]; exact hi), ← r.length]; exact e1
def ziZip (ts : ZTDs) : ZTI := fun ss Q => ts ss fun ds s => match ds with
  | [.lst _ xs, .lst _ ys] => Q (zipD xs ys) s
  | _ => False
def ziEnumerate (ts : ZTDs) : ZTI := fun ss Q => ts ss fun ds s => match ds with
  | [.lst _ xs] => Q (enD xs) s
  | _ => False
def ziReversed (ts : ZTDs) : ZTI := fun ss Q => ts ss fun ds s => match ds with
  | [.lst _ xs] => Q xs.reverse s
  | _ => False
theorem zi_zip {elts : List Expr} {kk : Nat} {tpos : Pos} (hm : X.mg "zip" = none) (ha : ZDs X G B [a, b] ts) (hg : Gl X "zip" := by rfl) (hs : starEach [a, b] X.env = (false, eval a X.env) :: starEach [b] X.env := by rfl) (hpl : (backTo pos (starEach [b] X.env)).any (·.1) = false := by rfl) :
    ZIt X G B (.Tuple elts kk tpos) (.Call (.Name "zip" p) [a, b] [] pos) (ziZip ts) := by
  obtain ⟨te, pa, r⟩ := ha
  refine ⟨_, pi_zip hg hm pa hs hpl, fun σ H ss Q R S hw fin => ?_⟩
  refine r σ H ss _ _ S hw fun vs H1 ds s1 k1 S1 rs q => ?_
  match ds, vs, rs, q with
  | [.lst m xs, .lst m' ys], [v, v'], .cons r1 (.cons r2 .nil), q =>
    obtain ⟨a, ws, rfl, h1, h2⟩ := r1.lq
    obtain ⟨b, us, rfl, g1, g2⟩ := r2.lq
    exact ⟨a, b, ws, us, rfl, h1 H1 (Kp.refl _), g1 H1 (Kp.refl _), fin _ H1 _ s1 k1 S1 (itok_zip h1 g1 h2 g2) q⟩
theorem zi_enumerate {elts : List Expr} {kk : Nat} {tpos : Pos} (hm : X.mg "enumerate" = none) (ha : ZDs X G B [a] ts) (hg : Gl X "enumerate" := by rfl) (hs : starEach [a] X.env = [(false, eval a X.env)] := by rfl) :
    ZIt X G B (.Tuple elts kk tpos) (.Call (.Name "enumerate" p) [a] [] pos) (ziEnumerate ts) := by
  obtain ⟨te, pa, r⟩ := ha
  refine ⟨_, pi_enum hg hm pa hs, fun σ H ss Q R S hw fin => ?_⟩
  refine r σ H ss _ _ S hw fun vs H1 ds s1 k1 S1 rs q => ?_
  match ds, vs, rs, q with
  | [.lst m xs], [v], .cons r1 .nil, q =>
    obtain ⟨a, ws, rfl, h1, h2⟩ := r1.lq
    exact ⟨a, ws, rfl, h1 H1 (Kp.refl _), fin _ H1 _ s1 k1 S1 (itok_enum h1 h2) q⟩
theorem zi_reversed {tg : Expr} (hm : X.mg "reversed" = none) (ha : ZDs X G B [a] ts) (hg : Gl X "reversed" := by rfl) (hs : starEach [a] X.env = [(false, eval a X.env)] := by rfl) :
    ZIt X G B tg (.Call (.Name "reversed" p) [a] [] pos) (ziReversed ts) := by
  obtain ⟨te, pa, r⟩ := ha
  refine ⟨_, pi_reversed hg hm pa hs, fun σ H ss Q R S hw fin => ?_⟩
  refine r σ H ss _ _ S hw fun vs H1 ds s1 k1 S1 rs q => ?_
  match ds, vs, rs, q with
  | [.lst m xs], [v], .cons r1 .nil, q =>
    obtain ⟨a, ws, rfl, h1, h2⟩ := r1.lq
    exact ⟨a, ws, rfl, h1 H1 (Kp.refl _), fin _ H1 _ s1 k1 S1 (itok_rev h1 h2) q⟩
end

/-! ## constants of the top -/
def ConstAt (K : Frag) (mg : Str → Option Value) (x : Str) (d : D) : Prop := ∃ (v : V) (u : Value), mg x = some u ∧ RelV v u ∧ ∀ (G : Addr → Prop) (H : Hp), DR K G H v d
section
variable {K : Frag} {h : Heap} {mg : Str → Option Value} {x : Str}
theorem const_str {s : Str} {t : Tok} (X : K.In h) (G : h.Ns mainGlobals mg) (a : PySem.W.nsIn K mainGlobals x = some (some (.str s t))) : ConstAt K mg x (.str s) :=
  ⟨.str s, .str s t, PySem.W.mg_of X G a, ⟨t, rfl⟩, fun _ _ => .str s⟩
theorem const_int {i : Int} {t : Tok} (X : K.In h) (G : h.Ns mainGlobals mg) (a : PySem.W.nsIn K mainGlobals x = some (some (.int i t))) : ConstAt K mg x (.int i) :=
  ⟨.int i, .int i t, PySem.W.mg_of X G a, ⟨t, rfl⟩, fun _ _ => .int i⟩
theorem DRs_strs {G : Addr → Prop} {H : Hp} : ∀ l : List Str, DRs K G H (l.map V.str) (l.map D.str)
  | [] => .nil
  | s :: l => .cons (.str s) (DRs_strs l)
theorem const_tup {l : List Str} {T : Addr} {td : Option Addr} {its : Array Value} {n : Nat} {sl : Array (Option Value)} (X : K.In h) (G : h.Ns mainGlobals mg) (a : PySem.W.nsIn K mainGlobals x = some (some (.ref T))) (t : K.lookup T = some ⟨.type "tuple", td, .seq its n, sl⟩)
    (v : Vals (l.map V.str) its.toList) (hs : its.size ≤ sizeLine) : ConstAt K mg x (.tup (l.map D.str)) :=
  ⟨.ref T, .ref T, PySem.W.mg_of X G a, rfl, fun _ _ => .tup (.inr ⟨_, its, n, t, rfl, rfl, hs, v⟩) (DRs_strs l)⟩
end
section
variable {X : Cx} {G : Addr → Prop} {B : Hp} {Wz : WZ} {k j : Nat} {e o a b c : Expr} {es : List Expr} {t to : ZT} {pos apos cpos p : Pos}
theorem z_const {x : Str} {d : D} (h : ConstAt X.K X.mg x d) (hg : Gl X x := by rfl) (hdb : (x == ("__debug__" : Str)) = false := by decide) : ZE X G B (.Name x pos) (zC d) := by
  obtain ⟨v, u, hm, r, hd⟩ := h
  exact z_glob hg hm r hd hdb
/-! ## str(..) -/
def zStrC : ZL := fun ds Q => match ds with
  | [.int i] => Sd (i.natAbs.log2 < 1920) ∧ Q (.d (.str (toString i)))
  | [.str s] => Q (.d (.str s))
  | _ => False
theorem cz_str : CalZ X (.type "str") zStrC := by
  refine ⟨_, call_str_int.or SkE.call_str_str, fun G H vs ds Q R h q fin => ?_⟩
  match ds, h, q with
  | [.int i], h, q =>
    obtain ⟨v, rfl, r⟩ := h.one
    obtain rfl := r.i
    exact .inl ⟨i, rfl, q.1.h, fin _ H _ (rs_d (.str _)) q.2⟩
  | [.str s], h, q =>
    obtain ⟨v, rfl, r⟩ := h.one
    obtain rfl := r.s
    exact .inr ⟨s, rfl, fin _ H _ (rs_d (.str _)) q⟩
/-! ## methods of texts -/
def zUpperC : ZL := fun ds Q => match ds with
  | [.str a] => Sd (a.length ≤ 5592405) ∧ Q (.d (.str (Txt.upper a)))
  | _ => False
theorem mq_upper : MqZ X "str.upper" zUpperC := by
  refine ⟨_, mt_upper, fun G H x xs ds Q R h q fin => ?_⟩
  match ds, h, q with
  | [.str a], h, q =>
    obtain ⟨h1, h2⟩ := h.ref
    cases h2
    obtain rfl := h1.s
    exact ⟨a, rfl, rfl, q.1.h, fin _ H _ (rs_d (.str _)) q.2⟩
def zSplitC : ZL := fun ds Q => match ds with
  | [.str a, .str b] => Sd ((b.length == 0) = false) ∧ Sd (a.length + 2 ≤ sizeLine) ∧ Q (.new (.lst ((Txt.split a b).map D.str)))
  | [.str a] => Sd (a.length + 2 ≤ sizeLine) ∧ Q (.new (.lst ((Txt.words a).map D.str)))
  | _ => False
theorem mq_split : MqZ X "str.split" zSplitC := by
  refine ⟨_, mt_split.or mt_words, fun G H x xs ds Q R h q fin => ?_⟩
  match ds, h, q with
  | [.str a, .str b], h, q =>
    obtain ⟨h1, h2⟩ := h.ref
    obtain ⟨w, rfl, ry⟩ := h2.one
    obtain rfl := h1.s
    obtain rfl := ry.s
    exact .inl ⟨a, b, rfl, rfl, q.1.h, q.2.1.h, fun p np => fin _ _ _ (rs_new np (DRs_strs _)) q.2.2⟩
  | [.str a], h, q =>
    obtain ⟨h1, h2⟩ := h.ref
    cases h2
    obtain rfl := h1.s
    exact .inr ⟨a, rfl, rfl, q.1.h, fun p np => fin _ _ _ (rs_new np (DRs_strs _)) q.2⟩
def zJoinC : ZL := fun ds Q => ∃ (a : Str) (m : Nat) (ys : List Str), ds = [.str a, .lst m (ys.map .str)] ∧ Sd ((ys.map (·.length)).sum + ys.length * a.length ≤ 16777216) ∧ Q (.d (.str (Txt.join a ys)))
theorem mq_join : MqZ X "str.join" zJoinC := by
  refine ⟨_, mt_join, fun G H x xs ds Q R h q fin => ?_⟩
  obtain ⟨a, m, ys, rfl, hz, q⟩ := q
  obtain ⟨h1, h2⟩ := h.ref
  obtain ⟨w, rfl, ry⟩ := h2.one
  obtain rfl := h1.s
  obtain ⟨p, ws, rfl, hq, rr⟩ := ry.sq
  obtain rfl := rr.strs
  exact ⟨a, p, ys, rfl, rfl, .inl hq, hz.h, fin _ H _ (rs_d (.str _)) q⟩
def zRjustC : ZL := fun ds Q => match ds with
  | [.str a, .int i] => Sd (PadOk i = true) ∧ Q (.d (.str (Txt.rjust a i)))
  | _ => False
theorem mq_rjust : MqZ X "str.rjust" zRjustC := by
  refine ⟨_, mt_rjust, fun G H x xs ds Q R h q fin => ?_⟩
  match ds, h, q with
  | [.str a, .int i], h, q =>
    obtain ⟨h1, h2⟩ := h.ref
    obtain ⟨w, rfl, ry⟩ := h2.one
    obtain rfl := h1.s
    obtain rfl := ry.i
    exact ⟨a, i, rfl, rfl, q.1.h, fin _ H _ (rs_d (.str _)) q.2⟩
/-- a.index(b), b in a -/
def zSIndexC : ZL := fun ds Q => match ds with
  | [.str a, .str b] => ∃ (i : Nat) (rest : List Nat), Builtin.Str.occurrences a b 0 a.length 1 = i :: rest ∧ Q (.d (.int (i : Nat)))
  | _ => False
theorem mq_sindex : MqZ X "str.index" zSIndexC := by
  refine ⟨_, mt_sindex, fun G H x xs ds Q R h q fin => ?_⟩
  match ds, h, q with
  | [.str a, .str b], h, q =>
    obtain ⟨i, rest, ho, q⟩ := q
    obtain ⟨h1, h2⟩ := h.ref
    obtain ⟨w, rfl, ry⟩ := h2.one
    obtain rfl := h1.s
    obtain rfl := ry.s
    exact ⟨a, b, i, rest, rfl, rfl, ho, fin _ H _ (rs_d (.int _)) q⟩
end

/-! ## an exception that was caught, kept as a thing -/
/-- an object that stands there untracked is tracked, known -/
theorem Inv.hold {X : Cx} {pins : List (Addr × Obj)} {σ : St} {H : Hp} {s : Shared} {a : Addr} {oe : Obj} {vs : Array Value} (I : Inv X pins σ H s) (ha : s.heap.get? a = some oe) (hd : oe.data = .fields vs) (hn : H a = none)
    (nL : a ≠ X.env.locals) (n0 : X.s_0.heap.get? a = none) (np : ∀ p ∈ X.pn ++ pins, p.1 ≠ a) : Inv X pins σ (upd H a (.frz oe (.ext fun _ => True))) s := by
  have old : ∀ b (u : HO), H b = some u → upd H a (.frz oe (.ext fun _ => True)) b = some u := fun b u e => by
    rw [upd_ne (fun z => by rw [z, hn] at e; cases e)]; exact e
  have off : ∀ b, b ≠ a → H b = none → upd H a (.frz oe (.ext fun _ => True)) b = none := fun b ne e => by rw [upd_ne ne]; exact e
  refine ⟨I.ok, I.os, I.bare, ⟨I.base.keep, I.base.slot, fun b o e n hx => ?_, I.base.there, fun b xs e => ?_, fun b o u e => ?_, fun b ps e => ?_⟩, I.loc, I.cell, ?_, fun x c e => ?_, fun p hp => ?_, fun b u e => ?_, I.len⟩
  · refine off b (fun z => ?_) (I.base.free b o e n hx)
    rw [z, n0] at e; cases e
  · exact old b _ (I.base.tups b xs e)
  · exact old b _ (I.base.frzs b o u e)
  · obtain ⟨m, q⟩ := I.base.tbls b ps e
    exact ⟨m, old b _ q⟩
  · exact off _ (fun z => nL z.symm) I.free
  · refine off c (fun z => ?_) (I.freeC x c e)
    obtain ⟨v, o, ho, hc⟩ := I.cell x c e
    rw [z, ha] at ho; cases ho
    rw [hd] at hc; cases hc
  · obtain ⟨q1, q2, q3⟩ := I.pin p hp
    exact ⟨q1, off _ (np p hp) q2, q3⟩
  · by_cases hb : b = a
    · subst hb
      rw [upd_same] at e; cases e
      exact ⟨ha, trivial, ⟨oe, ha⟩, fun _ _ _ _ => trivial⟩
    · rw [upd_ne hb] at e
      exact (I.hok b u e).stay (fun c v _ q => q) (fun c q => old c _ q) fun c xs q => old c _ q
/-- behind «except x as n», the exception kept -/
def wHold (K : Frag) (c : Value) (i : Nat) (ts : TS) (Wout : WX) (D : Ends) : WX := fun cls d σ H =>
  ∃ b, PySem.W.exmOne K cls c = some b ∧ (b = true → ∀ (a : Addr) (oe : Obj), H a = none → Zc cls d oe → (∃ vs, oe.data = .fields vs) →
    ts { nx := fun σ' H' => D.nx (σ'.set i none) H', rt := D.rt, bk := fun σ' H' => D.bk (σ'.set i none) H', ct := fun σ' H' => D.ct (σ'.set i none) H' } (σ.set i (some (.ref a))) (upd H a (.frz oe (.ext fun _ => True)))) ∧ (b = false → Wout cls d σ H)
section
variable {X : Cx} {x n : Str} {c : Value} {i : Nat} {body suite : List Stmt} {b₀ : Stmt} {np pos pos' : Pos} {tb : WX → TS} {ts : TS} {Wout : WX}
theorem ps_try_hold (hst : X.stack = X.env :: X.outer) (hfr : X.env.frame = some X.env.locals) (hex : X.ex = []) (nd : X.N.Nodup) (hi : X.N[i]? = some n) (hln : X.env.kindOf n = some .local) (hc : Names X x c) (tk : Takes X Wout)
    (hb : ∀ (W : WX) (pn : List (Addr × Obj)) (xe : Value → Shared → Prop), Takes (X.tr pn xe) W → PassesOwn (model X.prog X.w) X.A X.env xe → PSs (X.tr pn xe) body (tb W))
    (hsu : ∀ (a : Addr) (pn : List (Addr × Obj)), PSs (X.suite a pn) (b₀ :: suite) ts) :
    PS X (.Try body [.ExceptHandler (some (.Name x np)) (some n) (b₀ :: suite) pos'] [] [] pos) (fun D σ H => tb (wHold X.K c i ts Wout D) D σ H) := by
  refine ⟨fun pins s σ H D I0 h => ?_⟩
  have ok := I0.ok
  have frms : X.A.frames = some (X.env :: X.outer) := ok.frames.trans (congrArg some hst)
  have lo : Loc X.env.scope n := .inl hln
  refine wpAny_Try_except ?_
  have run := (hb (wHold X.K c i ts Wout D) (X.pn ++ pins) (fun e s₁ => wpAny (model X.prog X.w) X.A (noteFrame e X.env) (fun _ s₂ => wpAny (model X.prog X.w) X.A (setFlight e none) (fun _ s₃ =>
    wpAny (model X.prog X.w) X.A (handleBy e X.env [.ExceptHandler (some (.Name x np)) (some n) (b₀ :: suite) pos']) (SP X pins D) X.xe s₃) X.xe s₂) X.xe s₁) ?tk PassesOwn.looking).run [] s σ H D (I0.toTry _) h
  case tk =>
    intro u s' raised
    obtain ⟨a, B, sI, ps2, τ, J1, cls, d, rfl, iv, nb, up, sky, na, os, ag, b, mt, yes, no⟩ := raised
    have iv1 : Inv X pins τ J1 sI := iv.ofTry ok
    rw [hst] at sky
    show wpAny (model X.prog X.w) X.A (noteFrame (.ref a) X.env) _ _ _
    refine Sky.land Zc.steady frms hfr sky fun hA flA upA => ?_
    have ivA : Inv X pins τ J1 { s' with heap := hA } := iv1.landed nb flA.1 (up.trans upA) os ag
    obtain ⟨oA, vA, getA, zA, dA⟩ := flA.there
    have nofr : a ∉ frs (X.env :: X.outer) := fun hm => by
      obtain ⟨_, o2, g2, nf2⟩ := flA.2.2.1.mem hm
      rw [getA] at g2; cases g2
      exact nf2 _ dA
    have offL : a ≠ X.env.locals := fun z => nofr (List.mem_filterMap.mpr ⟨X.env, List.mem_cons_self, hfr.trans (congrArg some z.symm)⟩)
    -- it is new since the entry
    have newI : sI.heap.get? a = none := by
      cases e : sI.heap.get? a with
      | none => rfl
      | some o =>
        have := nb a o e (by rw [hst]; exact nofr)
        rw [flA.2.1] at this; cases this
    have new0 : X.s_0.heap.get? a = none := by
      cases e : X.s_0.heap.get? a with
      | none => rfl
      | some o =>
        obtain ⟨o', q⟩ := iv1.base.there a o e (by rw [hex]; exact fun z => nomatch z)
        rw [newI] at q; cases q
    have offP : ∀ p ∈ X.pn ++ pins, p.1 ≠ a := fun p hp z => by
      have := (iv1.pin p hp).1
      rw [z, newI] at this; cases this
    have LT : PySem.W.Looks (model X.prog X.w) hA (typeOf (.ref a)) cls := fun A Q E s k q => wpAny_typeOf_ref (k _ _ getA) (by rw [zA.1]; exact q)
    refine wpAny_handleBy_cons (codeAny_handlers_test ?_) (fun q => nomatch q)
    have pinA : Inv (X.suite a (X.pn ++ pins)) [] τ J1 { s' with heap := hA } :=
      ⟨ivA.ok.suite _ _, ivA.os, ivA.bare, ivA.base, ivA.loc, ivA.cell, ivA.free, ivA.freeC, fun p hp => ivA.pin p (by rw [List.append_nil] at hp; exact hp), ivA.hok, ivA.len⟩
    have ask : ∀ {Q : Value → Shared → Prop} {E : Value → Shared → Prop}, Q c { s' with heap := hA } → wpAny (model X.prog X.w) (X.A.mark (some (.ref a))) (eval (.Name x np) X.env) Q E { s' with heap := hA } := fun {Q E} q => by
      obtain ⟨g1, g2, g3 | ⟨g3, g4, g5⟩⟩ := hc
      · exact ld_glob (X := X.suite a (X.pn ++ pins)) pinA g1 g3 q g2
      · exact ld_blt (X := X.suite a (X.pn ++ pins)) pinA g1 g3 g4 q g5 g2
    refine ask ((PySem.W.exm_one (M := model X.prog X.w) ivA.kIn LT mt).here ?_)
    cases b with
    | true =>
      refine codeAny_handlers_suite_as ?_
      refine HandSPX.lands_againZ flA fun hB flB upB => ?_
      have ivB : Inv X pins τ J1 { s' with heap := hB } := iv1.landed nb flB.1 ((up.trans upA).trans upB) os ag
      obtain ⟨oB, vB, getB, zB, dB⟩ := flB.there
      have held := Inv.hold ivB getB dB na offL new0 offP
      have inS : Inv (X.suite a (X.pn ++ pins)) [] τ (upd J1 a (.frz oB (.ext fun _ => True))) { s' with heap := hB } :=
        ⟨held.ok.suite _ _, held.os, held.bare, held.base, held.loc, held.cell, held.free, held.freeC, fun p hp => held.pin p (by rw [List.append_nil] at hp; exact hp), held.hok, held.len⟩
      refine store_ok (X := X.suite a (X.pn ++ pins)) (v := .ref a) inS nd hi lo rfl (fun s5 in5 => ?_) (.inr hln)
      refine wpAny_mono ((hsu a (X.pn ++ pins)).run [] s5 _ _ _ in5 (yes rfl a oB na zB ⟨_, dB⟩)) (fun f s6 out => ?_) (fun _ _ z => False.elim z)
      have bye : ∀ {σ6 : St} {H6 : Hp} {Q : Shared → Prop}, Inv (X.suite a (X.pn ++ pins)) [] σ6 H6 s6 → (∀ s7, Inv X pins (σ6.set i none) H6 s7 → Q s7) →
          wpAny (model X.prog X.w) X.A (do bindName X.env n .none; unbindBehindTheSuite X.env n pos') (fun _ s7 => Q s7) X.xe s6 := fun {σ6 H6 Q} in6 hq => by
        have back : Inv X pins σ6 H6 s6 := ⟨ok, in6.os, in6.bare, in6.base, in6.loc, in6.cell, in6.free, in6.freeC, fun p hp => in6.pin p (by rw [List.append_nil]; exact hp), in6.hok, in6.len⟩
        exact gone_ok back nd hi hln hq
      cases f with
      | next => obtain ⟨σ6, H6, in6, q6⟩ := out; exact bye in6 fun s7 o7 => ⟨_, _, o7, q6⟩
      | brk => obtain ⟨σ6, H6, in6, q6⟩ := out; exact bye in6 fun s7 o7 => ⟨_, _, o7, q6⟩
      | cont => obtain ⟨σ6, H6, in6, q6⟩ := out; exact bye in6 fun s7 o7 => ⟨_, _, o7, q6⟩
      | ret u => obtain ⟨v6, σ6, H6, in6, r6, q6⟩ := out; exact bye in6 fun s7 o7 => ⟨_, _, _, o7, r6, q6⟩
    | false =>
      show wpAny _ X.A (handleBy (.ref a) X.env []) _ _ _
      refine wpAny_handleBy_nil ?_
      obtain ⟨k1, k2, k3, oe, vs, T, oT, ts', he, hz, hd, h1, hr⟩ := id flA
      unfold PySem.passOn
      refine wpAny_bind (wpAny_field he hd h1 ?_)
      rw [if_neg (show ¬ ((Value.ref T == Value.none) = true) from by simp)]
      have on : wpAny (model X.prog X.w) X.A (setFlight (.ref a) X.env.frame) (fun _ s4 => wpAny (model X.prog X.w) X.A (throw (.ref a) : Sem Flow) (SP X pins D) X.xe s4) X.xe { s' with heap := hA } := by
        rw [hfr]
        refine HandSPX.setFlight_upZ flA fun h4 hh4 up4 => wpAny_throw (tk _ _ ?_)
        exact ⟨a, B, sI, pins, τ, J1, cls, d, rfl, iv1, nb, (up.trans upA).trans up4, .inr (.inr (by rw [hst]; exact hh4)), na, os, ag, no rfl⟩
      first
        | exact wpAny_bind (wpAny_pure (wpAny_bind on))
        | exact wpAny_bind on
  refine wpAny_mono run (fun f s1 out => ?_) fun _ _ z => z
  cases f with
  | next => obtain ⟨σ1, H1, in1, q⟩ := out; exact wpAny_execs_nil ⟨σ1, H1, in1.ofTry ok, q⟩
  | brk => obtain ⟨σ1, H1, in1, q⟩ := out; exact ⟨σ1, H1, in1.ofTry ok, q⟩
  | cont => obtain ⟨σ1, H1, in1, q⟩ := out; exact ⟨σ1, H1, in1.ofTry ok, q⟩
  | ret u => obtain ⟨v, σ1, H1, in1, r, q⟩ := out; exact ⟨v, σ1, H1, in1.ofTry ok, r, q⟩
end

/-! ## raise -/
/-- an own exception class without __init__ of its own -/
structure ExAt (K : Frag) (mg : Str → Option Value) (c : Nat) (C : Addr) : Prop where
  at_ : ClsAt K c C
  m : mg (clsN c) = some (.ref C)
  q : PySem.W.excIn K C [.type "ValueError", .type "Exception", .type "BaseException", .type "object"] "ValueError.__new__" = true
  k : PySem.W.keepIn K (.ref C) = true
  b : PySem.W.subIn K (.ref C) (.type "BaseException") = some true
  t : PySem.W.typeIn K (.ref C) = some (.type "type")
theorem ex_at {K : Frag} {h : Heap} {mg : Str → Option Value} {c : Nat} {C : Addr} (X : K.In h) (G : h.Ns mainGlobals mg) (a : PySem.W.nsIn K mainGlobals (clsN c) = some (some (.ref C)))
    (q : PySem.W.excIn K C [.type "ValueError", .type "Exception", .type "BaseException", .type "object"] "ValueError.__new__" = true) (k : PySem.W.keepIn K (.ref C) = true) (b : PySem.W.subIn K (.ref C) (.type "BaseException") = some true) (t : PySem.W.typeIn K (.ref C) = some (.type "type")) : ∃ C, ExAt K mg c C :=
  ⟨C, a, PySem.W.mg_of X G a, q, k, b, t⟩
def zRaise (c : Nat) (Wz : WZ) : ZTS := fun _ ss => Wz c [] [] ss
section
variable {X : Cx} {G : Addr → Prop} {B : Hp} {Wz : WZ} {k : Nat} {e : Expr} {pos p p2 pos2 : Pos}
theorem s_raise {c j : Nat} {x m : Str} (C : Ctx X G B Wz k) (E : ∃ Ca, ExAt X.K X.mg c Ca) (hx : x = clsN c := by rfl) (hg : Gl X x := by rfl) (hdb : (x == ("__debug__" : Str)) = false := by decide) :
    ZS X G B (.Raise (some (.Call (.Name x p) [.Constant (.str m) j p2] [] pos)) none pos2) (zRaise c Wz) := by
  obtain ⟨Ca, E⟩ := E
  obtain ⟨W, tk, hW⟩ := C.wish
  subst hx
  exact ⟨_, ps_raise C.calm tk (pmk_own PySem.F.excBase_ValueError E.q E.m E.k (raises_own E.b E.t) hg hdb), fun σ H ss D D' S hw ok => hW σ H ss _ none c [] [] S ⟨⟨Ca, E.at_, rfl⟩, [], .inl ⟨rfl, rfl⟩, rfl, .nil⟩ hw⟩
end
/-! ## try .. except C as n -/
def ExmAt (K : Frag) (c' c : Nat) : Prop := ∃ C' C, ClsAt K c' C' ∧ ClsAt K c C ∧ PySem.W.exmOne K (.ref C') (.ref C) = some (subC c' c)
theorem exm_at {K : Frag} {c' c : Nat} {C' C : Addr} {b : Bool} (a : PySem.W.nsIn K mainGlobals (clsN c') = some (some (.ref C'))) (a2 : PySem.W.nsIn K mainGlobals (clsN c) = some (some (.ref C))) (e1 : PySem.W.subIn K (.ref C) (.type "BaseException") = some true) (e2 : PySem.W.hasDictIn K C = true)
    (e3 : PySem.W.typeIn K (.ref C) = some (.type "type")) (e : PySem.W.subIn K (.ref C') (.ref C) = some b) (h : subC c' c = b) : ExmAt K c' c := ⟨C', C, a, a2, by rw [h]; exact PySem.W.exm_ref e1 e2 e3 e⟩
inductive ExmsOk (K : Frag) (c : Nat) : List Nat → Prop
  | nil : ExmsOk K c []
  | cons {c' : Nat} {l : List Nat} : ExmAt K c' c → ExmsOk K c l → ExmsOk K c (c' :: l)
theorem ExmsOk.at {K : Frag} {c c' : Nat} {l : List Nat} (h : ExmsOk K c l) (m : l.contains c' = true) : ExmAt K c' c := by
  induction h with
  | nil => simp at m
  | @cons c1 l a t ih =>
    rw [List.contains_cons, Bool.or_eq_true] at m
    rcases m with m | m
    · have : c' = c1 := by simpa using m
      subst this; exact a
    · exact ih m
/-- what is kept at H beside B -/
def Bh (B H : Hp) : Hp := fun b => match H b with
  | some (.frz o u) => some (.frz o u)
  | some (.tup xs) => some (.tup xs)
  | some (.xd fs) => some (.xd fs)
  | _ => B b
theorem bh_same {B H : Hp} (s : Same B H) : Same (Bh B H) H := fun b o e => by
  unfold Bh at e
  cases h : H b with
  | none => simp only [h] at e; have := s b o e; rw [h] at this; cases this
  | some u => cases u <;> simp only [h] at e <;> first | exact e | (have := s b o e; rw [h] at this; exact this)
theorem bh_none {B H : Hp} {b : Addr} (h : Bh B H b = none) : B b = none := by
  unfold Bh at h
  cases e : H b with
  | none => simp only [e] at h; exact h
  | some u => cases u <;> simp only [e] at h <;> first | exact h | cases h
theorem bh_mut {B H : Hp} {b : Addr} (m : Mut (H b)) : Bh B H b = B b := by
  unfold Bh
  cases e : H b with
  | none => simp only
  | some u => rw [e] at m; cases u <;> first | exact m.elim | simp only
theorem bh_kp {B H H' : Hp} (s : Same (Bh B H) H') : Kp H H' := ⟨fun a o u h => s a _ (by unfold Bh; rw [h]), fun a o h => s a _ (by unfold Bh; rw [h]), fun a o h => s a _ (by unfold Bh; rw [h])⟩
section
variable {K : Frag} {G : Addr → Prop} {B : Hp} {σ : St} {H H' : Hp} {ss : SS}
theorem Sm.up (S : Sm K G B [] σ H ss) : Sm K G (Bh B H) [] σ H ss := by
  obtain ⟨A, W⟩ := S.own
  refine ⟨bh_same S.keep, ⟨A, W.at_, W.nd, W.ap, fun i a h => ⟨?_, by simp⟩, W.off⟩, fun a h => by simp at h, fun a g => ?_, S.len⟩
  · rw [bh_mut (W.there h).1]; exact (W.fr i a h).1
  · obtain ⟨o, h⟩ := S.gb a g
    cases e : Bh B H a with
    | some u => exact ⟨u, rfl⟩
    | none => rw [bh_none e] at h; cases h
theorem Sm.down {H0 : Hp} (S0 : Sm K G B [] σ H0 ss) {σ' : St} {ss' : SS} (S : Sm K G (Bh B H0) [] σ' H' ss') : Sm K G B [] σ' H' ss' := by
  obtain ⟨A, W⟩ := S.own
  refine ⟨fun b o e => ?_, ⟨A, W.at_, W.nd, W.ap, fun i a h => ⟨bh_none (W.fr i a h).1, by simp⟩, W.off⟩, fun a h => by simp at h, S0.gb, S.len⟩
  have h0 := S0.keep b o e
  refine S.keep b o ?_
  unfold Bh
  rw [h0]
  cases o <;> first | rfl | exact e
end
/-- D behind the suite: the name is gone -/
def zGone (i : Nat) (D : ZEnds) : ZEnds := ⟨fun s => fc (s.set i none) D.nx, D.rt, fun s => fc (s.set i none) D.bk, fun s => fc (s.set i none) D.ct⟩
def zTry (l : List Nat) (c i : Nat) (zb : WZ → ZTS) (zs : ZTS) (Wz : WZ) : ZTS := fun D ss =>
  zb (fun c' ns ds s => Sd (l.contains c' = true) ∧ Br (subC c' c) (fc (s.set i (some (.pure (.exc c' ns ds)))) fun s2 => zs (zGone i D) s2) (Wz c' ns ds s)) D ss
section
variable {X : Cx} {G : Addr → Prop} {B : Hp} {Wz : WZ} {k : Nat} {e : Expr} {pos np pos' p2 pos2 : Pos} {body suite : List Stmt} {b₀ : Stmt}
theorem s_try {c i : Nat} {l : List Nat} {x n : Str} {zb : WZ → ZTS} {zs : ZTS} (C : Ctx X G B Wz k) (hC : ∃ Ca, ClsAt X.K c Ca ∧ X.mg (clsN c) = some (.ref Ca)) (hl : ExmsOk X.K c l)
    (hb : ∀ (pn : List (Addr × Obj)) (xe : Value → Shared → Prop) (B' : Hp) (Wz' : WZ), Ctx (X.tr pn xe) G B' Wz' k → ZSs (X.tr pn xe) G B' body (zb Wz'))
    (hs : ∀ (a : Addr) (pn : List (Addr × Obj)), ZSs (X.suite a pn) G B (b₀ :: suite) zs)
    (hx : x = clsN c := by rfl) (hi : X.N[i]? = some n := by rfl) (hln : X.env.kindOf n = some .local := by rfl) (hg : Gl X x := by rfl) (hdb : (x == ("__debug__" : Str)) = false := by decide)
    (hst : X.stack = X.env :: X.outer := by rfl) (hfr : X.env.frame = some X.env.locals := by rfl) (hex : X.ex = [] := by rfl) :
    ZS X G B (.Try body [.ExceptHandler (some (.Name x np)) (some n) (b₀ :: suite) pos'] [] [] pos) (zTry l c i zb zs Wz) := by
  obtain ⟨Ca, hCa, hm⟩ := hC
  obtain ⟨W0, tk0, hW0⟩ := C.wish
  subst hx
  let tb : WX → TS := fun W E σ H => ∃ (B' : Hp) (Wz' : WZ) (ss : SS) (D : ZEnds), (∀ σ H ss cls d c ns ds, Sm X.K G B' [] σ H ss → XR X.K G H cls d c ns ds → Wz' c ns ds ss → W cls d σ H) ∧ Sm X.K G B' [] σ H ss ∧ zb Wz' D ss ∧ EOk X.K G B' H D E
  let ts : TS := fun E σ H => ∃ (ss : SS) (D : ZEnds), Sm X.K G B [] σ H ss ∧ zs D ss ∧ EOk X.K G B H D E
  refine ⟨_, ps_try_hold (c := .ref Ca) (tb := tb) (ts := ts) hst hfr hex C.nd hi hln ⟨hg, hdb, .inl hm⟩ tk0 (fun W pn xe tk ps => ⟨fun pins s σ H E I h => ?_⟩) (fun a pn => ⟨fun pins s σ H E I h => ?_⟩), fun σ H ss D D' S hw ok => ?_⟩
  · obtain ⟨B', Wz', ss, D, wish, S, hz, ok⟩ := h
    obtain ⟨t1, p1, r1⟩ := hb pn xe B' Wz' ⟨C.room, C.nd, C.calm, ps, ⟨W, tk, wish⟩⟩
    exact p1.run pins s σ H E I (r1 σ H ss D E S hz ok)
  · obtain ⟨ss, D, S, hz, ok⟩ := h
    obtain ⟨t1, p1, r1⟩ := hs a pn
    exact p1.run pins s σ H E I (r1 σ H ss D E S hz ok)
  · refine ⟨Bh B H, _, ss, D, fun σ1 H1 s1 cls d c' ns ds S1 xr w => ?_, S.up, hw, ⟨fun σ' H' ss' k' S' q => ok.nx σ' H' ss' k' (S.down S') q, fun σ' v H' r ss' k' rr q => ok.rt σ' v H' r ss' k' ?_ q, fun σ' H' ss' k' S' q => ok.bk σ' H' ss' k' (S.down S') q, fun σ' H' ss' k' S' q => ok.ct σ' H' ss' k' (S.down S') q⟩⟩
    · obtain ⟨⟨C1, h1, rfl⟩, fvs, h2, h3, h4⟩ := xr
      obtain ⟨C1', C2, g1, g2, g3⟩ := hl.at w.1.h
      cases ClsAt.eq h1 g1
      cases ClsAt.eq hCa g2
      refine ⟨_, g3, fun hb a oe na hz hf => ?_, fun hb => ?_⟩
      · have w2 := (fc_iff _ _).mp (w.2.t hb)
        have kp1 : Kp H H1 := bh_kp S1.keep
        have sm : Same H1 (upd H1 a (.frz oe (.ext fun _ => True))) := fun b o e => by rw [upd_ne (ne_of_none e na)]; exact e
        have rd : DR X.K G (upd H1 a (.frz oe (.ext fun _ => True))) (.ref a) (.exc c' ns ds) := .exc h1 upd_same hz.1 hf (by
          rcases h2 with ⟨q1, q2⟩ | ⟨p, q1, q2⟩
          · exact .inl ⟨hz.2.trans q1, q2⟩
          · exact .inr ⟨p, hz.2.trans q1, sm _ _ q2⟩) h3 (h4.kp (Kp.of sm))
        have S2 := ((S.down S1).same sm).setD' (i := i) rd
        have kk := kp1.trans (Kp.of sm)
        have gone : ∀ {σ' : St} {H' : Hp} {ss' : SS}, Sm X.K G B [] σ' H' ss' → Sm X.K G B [] (σ'.set i none) H' (ss'.set i none) := fun {σ' H' ss'} S' => by
          have S3 := S'.drop i
          obtain ⟨A, W⟩ := S3.own
          refine ⟨S3.keep, ⟨A, fun j o e => ?_, W.nd, W.ap, W.fr, W.off⟩, S3.nn, S3.gb, by simp [S'.len]⟩
          obtain ⟨v, e1, r⟩ := W.at_ j o e
          refine ⟨v, ?_, r⟩
          rcases get_set e with ⟨rfl, q⟩ | ⟨ne, _⟩
          · cases q
          · rw [List.getElem?_set_ne (Ne.symm ne)]; exact e1
        refine ⟨_, zGone i D, S2, w2, ⟨fun σ' H' ss' k' S' q => ?_, fun σ' v H' r ss' k' rr q => ok.rt σ' v H' r ss' (kk.trans k') rr q, fun σ' H' ss' k' S' q => ?_, fun σ' H' ss' k' S' q => ?_⟩⟩
        · exact ok.nx _ _ _ (kk.trans k') (gone S') ((fc_iff _ _).mp q)
        · exact ok.bk _ _ _ (kk.trans k') (gone S') ((fc_iff _ _).mp q)
        · exact ok.ct _ _ _ (kk.trans k') (gone S') ((fc_iff _ _).mp q)
      · exact hW0 σ1 H1 s1 _ d c' ns ds (S.down S1) ⟨⟨C1, h1, rfl⟩, fvs, h2, h3, h4⟩ (w.2.f hb)
    · cases r with
      | d x => exact ⟨S.down rr.1, rr.2⟩
      | loc j => exact ⟨S.down rr.1, rr.2⟩
      | new o =>
        obtain ⟨as, S', ro, nd⟩ := rr
        obtain ⟨A, W⟩ := S'.own
        refine ⟨as, ⟨fun b o e => ?_, ⟨A, W.at_, W.nd, W.ap, fun i a h => ⟨bh_none (W.fr i a h).1, (W.fr i a h).2⟩, W.off⟩, fun a h => bh_none (S'.nn a h), S.gb, S'.len⟩, ro, nd⟩
        have h0 := S.keep b o e
        refine S'.keep b o ?_
        unfold Bh
        rw [h0]
        cases o <;> first | rfl | exact e
end

/-! ## isinstance of own things: instances, caught exceptions -/
inductive IC where
  | o (c : Nat) | t (n : String)
  deriving DecidableEq
def isaC (c : Nat) : IC → Bool
  | .o c' => subC c c'
  | .t n => n == "ValueError"
def icV (K : Frag) : IC → Value → Prop
  | .o c, u => ∃ C, ClsAt K c C ∧ u = .ref C
  | .t n, u => u = .type n
/-- what is known of isinstance(an instance of class c, u) -/
def KitAt (K : Frag) (c : Nat) (u : IC) : Prop := ∃ C w, ClsAt K c C ∧ icV K u w ∧ PySem.W.kitOne K (.ref C) w = some (isaC c u)
theorem kit_o {K : Frag} {c c' : Nat} {C C' : Addr} {b : Bool} (a : PySem.W.nsIn K mainGlobals (clsN c) = some (some (.ref C))) (a2 : PySem.W.nsIn K mainGlobals (clsN c') = some (some (.ref C'))) (e2 : PySem.W.hasDictIn K C' = true) (e3 : PySem.W.typeIn K (.ref C') = some (.type "type"))
    (e : PySem.W.subIn K (.ref C) (.ref C') = some b) (h : subC c c' = b) (n : ((Value.ref C == Value.ref C') = false) ∨ b = true) : KitAt K c (.o c') := by
  refine ⟨C, .ref C', a, ⟨C', a2, rfl⟩, ?_⟩
  have hb : isaC c (.o c') = b := h
  rw [hb]
  unfold PySem.W.kitOne
  by_cases q : (Value.ref C == Value.ref C') = true
  · rw [if_pos q]
    rcases n with n | n
    · rw [q] at n; cases n
    · rw [n]
  · rw [if_neg q]
    obtain ⟨cd, hc, _⟩ := PySem.W.any_some e2
    show (if ((PySem.W.clsIn K C').isSome && PySem.W.typeIn K (.ref C') == some (.type "type")) = true then PySem.W.subIn K (.ref C) (.ref C') else none) = some b
    rw [hc, e3, if_pos (by rfl)]; exact e
theorem kit_t {K : Frag} {c : Nat} {n : String} {C : Addr} {b : Bool} (a : PySem.W.nsIn K mainGlobals (clsN c) = some (some (.ref C))) (e : PySem.W.subIn K (.ref C) (.type n) = some b) (m : PySem.W.kitMeta n = true) (h : (n == "ValueError") = b) : KitAt K c (.t n) := by
  refine ⟨C, .type n, a, rfl, ?_⟩
  have hb : isaC c (.t n) = b := h
  rw [hb]
  unfold PySem.W.kitOne
  rw [if_neg (fun z => by cases beq_iff_eq.mp z)]
  show (if PySem.W.kitMeta n = true then PySem.W.subIn K (.ref C) (.type n) else none) = some b
  rw [if_pos m]; exact e
inductive KitsOk (K : Frag) : List (Nat × IC) → Prop
  | nil : KitsOk K []
  | cons {c : Nat} {u : IC} {l : List (Nat × IC)} : KitAt K c u → KitsOk K l → KitsOk K ((c, u) :: l)
theorem KitsOk.at {K : Frag} {c : Nat} {u : IC} {l : List (Nat × IC)} (h : KitsOk K l) (m : l.contains (c, u) = true) : KitAt K c u := by
  induction h with
  | nil => simp at m
  | @cons c1 u1 l a t ih =>
    rw [List.contains_cons, Bool.or_eq_true] at m
    rcases m with m | m
    · have q : (c, u) = (c1, u1) := by simpa using m
      cases q; exact a
    · exact ih m
/-- its class asked by instances -/
structure InsC (K : Frag) (C : Addr) : Prop where
  c : Cls K C
  ha : PySem.W.findIn K (.ref C) "__class__" = some (some (.builtin "object.__class__"))
  hn : PySem.W.specialIn K (.builtin "object.__class__") "__get__" = some (some (.builtin "getset_descriptor.__get__"))
  ht : PySem.W.takesIn K (.builtin "object.__class__") = some true
  hm : PySem.W.mroIn K C (.type "object") = some true
def TyAt (K : Frag) (c : Nat) : Prop := ∃ C, ClsAt K c C ∧ (ExcC K C ∨ InsC K C)
theorem ty_exc {K : Frag} {c : Nat} {C : Addr} (a : PySem.W.nsIn K mainGlobals (clsN c) = some (some (.ref C))) (h : ExcC K C) : ∃ C, ClsAt K c C ∧ ExcC K C := ⟨C, a, h⟩
theorem ty_ins {K : Frag} {c : Nat} {C : Addr} (a : PySem.W.nsIn K mainGlobals (clsN c) = some (some (.ref C))) (h : InsC K C) : ∃ C, ClsAt K c C ∧ InsC K C := ⟨C, a, h⟩
inductive TysOk (K : Frag) : List (Nat × Bool) → Prop
  | nil : TysOk K []
  | exc {c : Nat} {l : List (Nat × Bool)} : (∃ C, ClsAt K c C ∧ ExcC K C) → TysOk K l → TysOk K ((c, true) :: l)
  | ins {c : Nat} {l : List (Nat × Bool)} : (∃ C, ClsAt K c C ∧ InsC K C) → TysOk K l → TysOk K ((c, false) :: l)
theorem TysOk.exc' {K : Frag} {c : Nat} {l : List (Nat × Bool)} (h : TysOk K l) (m : l.contains (c, true) = true) : ∃ C, ClsAt K c C ∧ ExcC K C := by
  induction h with
  | nil => simp at m
  | exc a t ih =>
    rw [List.contains_cons, Bool.or_eq_true] at m
    rcases m with m | m
    · have q := (beq_iff_eq.mp m); cases q; exact a
    · exact ih m
  | ins a t ih =>
    rw [List.contains_cons, Bool.or_eq_true] at m
    rcases m with m | m
    · have q := (beq_iff_eq.mp m); cases q
    · exact ih m
theorem TysOk.ins' {K : Frag} {c : Nat} {l : List (Nat × Bool)} (h : TysOk K l) (m : l.contains (c, false) = true) : ∃ C, ClsAt K c C ∧ InsC K C := by
  induction h with
  | nil => simp at m
  | exc a t ih =>
    rw [List.contains_cons, Bool.or_eq_true] at m
    rcases m with m | m
    · have q := (beq_iff_eq.mp m); cases q
    · exact ih m
  | ins a t ih =>
    rw [List.contains_cons, Bool.or_eq_true] at m
    rcases m with m | m
    · have q := (beq_iff_eq.mp m); cases q; exact a
    · exact ih m
/-- what a value is, for isinstance -/
inductive TyO (K : Frag) (H : Hp) : V → Value → Prop
  | exc {a C : Addr} {oe : Obj} {φ : Heap → Prop} : H a = some (.frz oe (.ext φ)) → oe.cls = .ref C → (∃ vs, oe.data = .fields vs) → (oe.dict = none ∨ ∃ p fs, oe.dict = some p ∧ H p = some (.xd fs)) → ExcC K C → TyO K H (.ref a) (.ref C)
  | ins {a C dx : Addr} {o : Obj} {fs : List (Str × V)} : H a = some (.frz o (.ins C dx fs)) → InsC K C → TyO K H (.ref a) (.ref C)
def rIsO (K : Frag) : List V → Hp → VK → Prop := fun xs H Q => ∃ (x c : V) (t : Value) (b : Bool), xs = [x, c] ∧ TyO K H x t ∧ ((∃ u, ClsV c u ∧ PySem.W.kitOne K t u = some b) ∨ ∃ (tp : Addr) (cs : List V) (us : List Value), c = .ref tp ∧ H tp = some (.tup cs) ∧ Paired ClsV cs us ∧ PySem.W.kitAny K t us = some b) ∧ Q (.bl b) H
section
variable {X : Cx} {pins : List (Addr × Obj)} {σ : St} {H : Hp} {s : Shared}
theorem kit_ofO {x : V} {u t : Value} (I : Inv X pins σ H s) (rx : RelV x u) (ty : TyO X.K H x t) : ∃ P : Heap → Prop, PySem.W.KitX X.K u t P ∧ P s.heap ∧ u ≠ .builtin "__main__.__loader__#opaque" := by
  cases ty with
  | @exc a C oe φ h1 h2 h3 h4 h5 =>
    cases (show u = Value.ref a from rx)
    obtain ⟨g, _⟩ := I.hok a _ h1
    obtain ⟨vs, h3⟩ := h3
    have hcl : (PySem.W.clsIn X.K C).isSome = true := by obtain ⟨cd, hc, _⟩ := PySem.W.any_some h5.hd; rw [hc]; rfl
    have nc : PySem.W.notCls oe = true := by unfold PySem.W.notCls; rw [h3] <;> rfl
    rcases h4 with h4 | ⟨p, fs, h4, hp⟩
    · exact ⟨_, PySem.W.kitx_exc (od := none) hcl h5.hg h5.hk h5.hs h5.ha h5.hn h5.ht h5.hm, ⟨g, h2, nc, by rw [h4]; trivial⟩, fun z => nomatch z⟩
    · obtain ⟨mA, ⟨od, es, ep, q1, q2⟩, _⟩ := (show ObjOk X.prog X.w H s.heap p (.xd fs) from I.hok p _ hp)
      exact ⟨_, PySem.W.kitx_exc (od := some od) hcl h5.hg h5.hk h5.hs h5.ha h5.hn h5.ht h5.hm, ⟨g, h2, nc, by rw [h4]; exact q1⟩, fun z => nomatch z⟩
  | @ins a C dx o fs h1 h2 =>
    cases (show u = Value.ref a from rx)
    obtain ⟨mA, O, _⟩ := ins_getR I.hok (.inr ⟨_, h1⟩)
    obtain ⟨od, J, _⟩ := O.look
    exact ⟨_, PySem.W.kitx_own (h2.c.get _) h2.c.hd h2.ha h2.hn h2.ht h2.hm, J, fun z => nomatch z⟩
theorem call_isO {X : Cx} : CallR X (.builtin "isinstance") (rIsO X.K) := by
  intro pins s σ H xs us Q I r h
  obtain ⟨x, c, t, b, rfl, ty, hh, q⟩ := h
  match us, r with
  | [u1, u2], .cons r1 (.cons r2 .nil) =>
    obtain ⟨P, Z, p, hx⟩ := kit_ofO I r1 ty
    rcases hh with ⟨u, k, e⟩ | ⟨tp, cs, ws, rfl, hT, k, e⟩
    · have e2 := k.eq r2
      subst e2
      exact PySem.W.kia_one Z I.kIn p e hx fun tk => ⟨.bl b, H, I.tok tk, rfl, q⟩
    · cases (show u2 = Value.ref tp from r2)
      have hT' : ObjOk X.prog X.w H s.heap tp (.tup cs) := I.hok tp _ hT
      obtain ⟨_, its, rv, o, h1, h2, n, h3⟩ := hT'
      cases ClsV.all k rv
      obtain ⟨oc, od, dt, sl⟩ := o
      dsimp only at h2 h3
      cases h2; cases h3
      exact PySem.W.kia_tup Z I.kIn p h1 e hx fun tk => ⟨.bl b, H, I.tok tk, rfl, q⟩
end
section
variable {X : Cx} {G : Addr → Prop} {B : Hp} {e b : Expr} {t : ZT} {pos p : Pos}
/-- names of classes -/
inductive ICE (X : Cx) : List Expr → List IC → Prop
  | nil : ICE X [] []
  | own {x : Str} {c : Nat} {C : Addr} {p : Pos} {es : List Expr} {us : List IC} : ClsAt X.K c C → Gl X x → X.mg x = some (.ref C) → (x == ("__debug__" : Str)) = false → starEach (.Name x p :: es) X.env = (false, eval (.Name x p) X.env) :: starEach es X.env → ICE X es us → ICE X (.Name x p :: es) (.o c :: us)
  | ty {x : Str} {n : String} {p : Pos} {es : List Expr} {us : List IC} : Gl X x → X.mg x = none → bootBuiltins x = some (.type n) → x ≠ "__name__" → (x == ("__debug__" : Str)) = false → starEach (.Name x p :: es) X.env = (false, eval (.Name x p) X.env) :: starEach es X.env → ICE X es us → ICE X (.Name x p :: es) (.t n :: us)
theorem ICE.pa : ∀ {es : List Expr} {us : List IC}, ICE X es us → ∃ (cs : List V) (ws : List Value), PA X es (fun _ H Q => Q cs H) ∧ Paired ClsV cs ws ∧ Paired (fun u w => icV X.K u w) us ws ∧ cs.length = us.length
  | _, _, .nil => ⟨[], [], pa_nil, .nil, .nil, rfl⟩
  | _, _, .own (C := C) a g m d s r => by
    obtain ⟨cs, ws, h1, h2, h3, h4⟩ := r.pa
    exact ⟨.ref C :: cs, .ref C :: ws, pa_cons (pe_glob (v := .ref C) g m rfl d) h1 s, .cons (.own C) h2, .cons ⟨C, a, rfl⟩ h3, congrArg (· + 1) h4⟩
  | _, _, .ty (n := n) g m v w d s r => by
    obtain ⟨cs, ws, h1, h2, h3, h4⟩ := r.pa
    exact ⟨.ty n :: cs, .type n :: ws, pa_cons (pe_bltn (v := .ty n) g m v rfl w d) h1 s, .cons (.ty n) h2, .cons rfl h3, congrArg (· + 1) h4⟩
def D.cl : D → Option (Nat × Bool)
  | .exc c _ _ => some (c, true)
  | .obj c _ _ => some (c, false)
  | _ => none
def zIsO (cl : List (Nat × Bool)) (tb : List (Nat × IC)) (us : List IC) (t : ZT) : ZT := fun ss Q => zN t ss fun r s => match cv s r with
  | some d => match d.cl with
    | some c => Sd ((cl.contains c && us.all fun u => tb.contains (c.1, u)) = true) ∧ Q (.d (.bl (us.any (isaC c.1)))) s
    | none => False
  | none => False
theorem isO_ty {K : Frag} {H : Hp} {v : V} {d : D} {c : Nat × Bool} {cl : List (Nat × Bool)} (r : VR K G H v d) (e : d.cl = some c) (h : cl.contains c = true) (ok : TysOk K cl) : ∃ C, ClsAt K c.1 C ∧ TyO K H v (.ref C) := by
  cases d with
  | exc x ns ds =>
    cases e
    cases r with
    | d r =>
      cases r with
      | @exc a C oe φ _ fvs _ _ h1 h2 h3 h4 h5 h6 h7 =>
        obtain ⟨C', g1, g2⟩ := ok.exc' h
        cases ClsAt.eq h1 g1
        exact ⟨C, h1, .exc h2 h3 h4 (h5.imp (fun q => q.1) fun ⟨p, q1, q2⟩ => ⟨p, _, q1, q2⟩) g2⟩
  | obj x ns ds =>
    cases e
    cases r with
    | d r =>
      cases r with
      | @obj a C dx _ o fvs _ _ h1 h2 h3 h4 =>
        obtain ⟨C', g1, g2⟩ := ok.ins' h
        cases ClsAt.eq h1 g1
        exact ⟨C, h1, .ins h2 g2⟩
  | _ => cases e
theorem icV_kit {K : Frag} {c : Nat} {C : Addr} {tb : List (Nat × IC)} (hc : ClsAt K c C) (ok : KitsOk K tb) {u : IC} {w : Value} (h : tb.contains (c, u) = true) (r : icV K u w) : PySem.W.kitOne K (.ref C) w = some (isaC c u) := by
  obtain ⟨C1, w1, h1, h2, h3⟩ := ok.at h
  cases ClsAt.eq hc h1
  have : w = w1 := by
    cases u with
    | o x =>
      obtain ⟨D1, q1, rfl⟩ := r
      obtain ⟨D2, q2, rfl⟩ := h2
      rw [ClsAt.eq q1 q2]
    | t n => exact (show w = .type n from r).trans (show w1 = .type n from h2).symm
  subst this; exact h3
theorem icV_any {K : Frag} {c : Nat} {C : Addr} {tb : List (Nat × IC)} (hc : ClsAt K c C) (ok : KitsOk K tb) : ∀ {us : List IC} {ws : List Value}, Paired (fun u w => icV K u w) us ws → (us.all fun u => tb.contains (c, u)) = true → PySem.W.kitAny K (.ref C) ws = some (us.any (isaC c))
  | _, _, .nil, _ => rfl
  | _, _, .cons (l₁ := us) (a := u) r rs, h => by
    rw [List.all_cons, Bool.and_eq_true] at h
    unfold PySem.W.kitAny
    rw [icV_kit hc ok h.1 r, List.any_cons]
    cases isaC c u with
    | true => rfl
    | false => simpa using icV_any hc ok rs h.2
theorem z_isO {cl : List (Nat × Bool)} {tb : List (Nat × IC)} {u : IC} (he : ZE X G B e t) (tys : TysOk X.K cl) (kits : KitsOk X.K tb) (hg : Gl X "isinstance") (hm : X.mg "isinstance" = none) (ice : ICE X [b] [u])
    (hv : bootBuiltins "isinstance" = some (.builtin "isinstance") := by decide +kernel)
    (hs1 : starEach [e, b] X.env = (false, eval e X.env) :: starEach [b] X.env := by rfl) (hpl : (backTo pos (starEach [b] X.env)).any (·.1) = false := by rfl) :
    ZE X G B (.Call (.Name "isinstance" p) [e, b] [] pos) (zIsO cl tb [u] t) := by
  obtain ⟨te, pt, z⟩ := z_n he
  obtain ⟨cs, ws, pa, k, iw, _⟩ := ice.pa
  refine ⟨_, pe_callB call_isO hg hm hv (pa_cons pt pa hs1) (by decide) (by decide) hs1 hpl, fun σ H ss Q R S hw fin => ?_⟩
  refine z σ H ss _ _ S hw fun v H1 r s1 k1 rr q => ?_
  cases e1 : cv s1 r with
  | none => simp only [e1] at q
  | some d =>
    simp only [e1] at q
    cases e2 : d.cl with
    | none => simp only [e2] at q
    | some c =>
      simp only [e2] at q
      have sd := (Bool.and_eq_true _ _).mp q.1.h
      obtain ⟨C, hC, ty⟩ := isO_ty (cv_vr rr.sem (Kp.refl _) rr e1) e2 sd.1 tys
      match cs, ws, k, iw with
      | [cv], [w], .cons kc .nil, .cons r1 .nil =>
        have sd2 : tb.contains (c.1, u) = true := by simpa using sd.2
        refine ⟨v, cv, .ref C, _, rfl, ty, .inl ⟨w, kc, icV_kit hC kits sd2 r1⟩, fin _ H1 _ s1 k1 (.d' rr.sem (.bl _)) ?_⟩
        have e3 : [u].any (isaC c.1) = isaC c.1 u := by simp
        rw [← e3]; exact q.2
theorem z_isOT {cl : List (Nat × Bool)} {tb : List (Nat × IC)} {us : List IC} {es : List Expr} {kk : Nat} {tpos : Pos} (he : ZE X G B e t) (tys : TysOk X.K cl) (kits : KitsOk X.K tb) (hg : Gl X "isinstance") (hm : X.mg "isinstance" = none) (ice : ICE X es us) (hl : us.length ≤ 100 := by decide)
    (hv : bootBuiltins "isinstance" = some (.builtin "isinstance") := by decide +kernel)
    (hs1 : starEach [e, .Tuple es kk tpos] X.env = (false, eval e X.env) :: starEach [.Tuple es kk tpos] X.env := by rfl) (hs2 : starEach [.Tuple es kk tpos] X.env = (false, eval (.Tuple es kk tpos) X.env) :: starEach [] X.env := by rfl) (hpl : (backTo pos (starEach [.Tuple es kk tpos] X.env)).any (·.1) = false := by rfl) :
    ZE X G B (.Call (.Name "isinstance" p) [e, .Tuple es kk tpos] [] pos) (zIsO cl tb us t) := by
  obtain ⟨te, pt, z⟩ := z_n he
  obtain ⟨cs, ws, pa, k, iw, hlen⟩ := ice.pa
  refine ⟨_, pe_callB call_isO hg hm hv (pa_cons pt (pa_cons (pe_tup pa) pa_nil hs2) hs1) (by decide) (by decide) hs1 hpl, fun σ H ss Q R S hw fin => ?_⟩
  refine z σ H ss _ _ S hw fun v H1 r s1 k1 rr q => ?_
  cases e1 : cv s1 r with
  | none => simp only [e1] at q
  | some d =>
    simp only [e1] at q
    cases e2 : d.cl with
    | none => simp only [e2] at q
    | some c =>
      simp only [e2] at q
      have sd := (Bool.and_eq_true _ _).mp q.1.h
      refine ⟨by rw [sizeLine_eq, hlen]; omega, fun tp np => ?_⟩
      have sm : Same H1 (upd H1 tp (.tup cs)) := fun b o e => by rw [upd_ne (ne_of_none e np)]; exact e
      have rr2 : RR X.K G B σ (upd H1 tp (.tup cs)) s1 v r := by
        cases r with
        | d x => exact ⟨rr.1.same sm, rr.2.kp (Kp.of sm)⟩
        | loc i => exact ⟨rr.1.same sm, rr.2⟩
        | new o => cases e1
      obtain ⟨C, hC, ty⟩ := isO_ty (cv_vr rr2.sem (Kp.refl _) rr2 e1) e2 sd.1 tys
      exact ⟨v, .ref tp, .ref C, _, rfl, ty, .inr ⟨tp, cs, ws, rfl, upd_same, k, icV_any hC kits iw sd.2⟩, fin _ _ _ s1 (k1.trans (Kp.of sm)) (.d' rr2.sem (.bl _)) q.2⟩
end

section
variable {X : Cx} {G : Addr → Prop} {B : Hp} {Wz : WZ} {k j : Nat} {e o a b c : Expr} {es : List Expr} {t to : ZT} {pos apos cpos p : Pos}
/-! ## behind a statement a slot's list is frozen -/
theorem ps_fz {st : Stmt} {ts : TS} (i : Nat) (h : PS X st ts) : PS X st (fun D σ H => ts { D with nx := fun σ' H' => D.nx σ' H' ∨ ∃ a u, σ'[i]? = some (some (.ref a)) ∧ H' a = some u ∧ Mut (some u) ∧ ∀ od, D.nx σ' (upd H' a (.frz od u)) } σ H) := by
  refine ⟨fun pins s σ H D I hw => ?_⟩
  refine wpAny_mono (h.run pins s σ H _ I hw) (fun f s1 out => ?_) fun _ _ z => z
  cases f with
  | next =>
    obtain ⟨σ', H', J, q⟩ := out
    rcases q with q | ⟨a, u, _, ha, mu, q⟩
    · exact ⟨σ', H', J, q⟩
    · obtain ⟨od, J2⟩ := J.lock ha mu
      exact ⟨σ', _, J2, q od⟩
  | brk => exact out
  | cont => exact out
  | ret u => exact out
def fzS (i : Nat) (s : SS) (Q : SS → Prop) : Prop := match s[i]? with
  | some (some (.pure _)) => Q s
  | some (some o) => match o.fz with
    | some d => fc (s.set i (some (.pure d))) Q
    | none => Q s
  | _ => Q s
def zFzS (i : Nat) (z : ZTS) : ZTS := fun D ss => z ⟨fun s => fzS i s D.nx, D.rt, D.bk, D.ct⟩ ss
theorem s_fz {st : Stmt} {z : ZTS} (i : Nat) (h : ZS X G B st z) : ZS X G B st (zFzS i z) := by
  obtain ⟨ts, p, r⟩ := h
  refine ⟨_, ps_fz i p, fun σ H ss D D' S hw ok => r σ H ss _ _ S hw ⟨fun σ' H' s k' S' q => ?_, ok.rt, ok.bk, ok.ct⟩⟩
  have q0 : fzS i s D.nx := q
  unfold fzS at q0
  have stay : D.nx s → D'.nx σ' H' := fun h => ok.nx σ' H' s k' S' h
  cases es : s[i]? with
  | none => simp only [es] at q0; exact .inl (stay q0)
  | some oo =>
    cases oo with
    | none => simp only [es] at q0; exact .inl (stay q0)
    | some o =>
      have go : ∀ d, o.fz = some d → D.nx (s.set i (some (.pure d))) → D'.nx σ' H' ∨ ∃ a u, σ'[i]? = some (some (.ref a)) ∧ H' a = some u ∧ Mut (some u) ∧ ∀ od, D'.nx σ' (upd H' a (.frz od u)) := fun d ef hn => by
        obtain ⟨v', as, ev', ro, nd, S2⟩ := S'.take es
        rcases fz_or S2 ro ef with ⟨S3, r3, _⟩ | ⟨a, u, e1, _, e2, mu, q2⟩
        · have S4 := S3.put ev' (.pure r3) List.nodup_nil
          rw [List.set_set] at S4
          exact .inl (ok.nx σ' H' _ k' S4 hn)
        · subst e1
          refine .inr ⟨a, u, ev', e2, mu, fun od => ?_⟩
          obtain ⟨S3, r3, k2⟩ := q2 od
          have S4 := S3.put ev' (.pure r3) List.nodup_nil
          rw [List.set_set] at S4
          exact ok.nx σ' _ _ (k'.trans k2) S4 hn
      cases o with
      | pure d => simp only [es] at q0; exact .inl (stay q0)
      | lst ds => simp only [es, O.fz] at q0; exact go _ rfl ((fc_iff _ _).mp q0)
      | dct ks ds => simp only [es, O.fz] at q0; exact go _ rfl ((fc_iff _ _).mp q0)
      | ins a c ns os =>
        simp only [es] at q0
        cases ef : O.fz (.ins a c ns os) with
        | none => simp only [ef] at q0; exact .inl (stay q0)
        | some d => simp only [ef] at q0; exact go d ef ((fc_iff _ _).mp q0)
theorem ns_ex {K : Frag} {x : Str} {C : Addr} (a : PySem.W.nsIn K mainGlobals x = some (some (.ref C))) : ∃ C, PySem.W.nsIn K mainGlobals x = some (some (.ref C)) := ⟨C, a⟩
mutual
theorem pl_refl : ∀ {n : Nat} {d : D}, d.pl n = true → D.eq d d = true
  | _, .non, _ => rfl
  | _, .bl _, _ => decide_eq_true rfl
  | _, .int _, _ => decide_eq_true rfl
  | _, .str _, _ => decide_eq_true rfl
  | 0, .tup _, h => by simp [D.pl] at h
  | n + 1, .tup ds, h => pls_refl (n := n) (ds := ds) (by simpa [D.pl] using h)
  | 0, .lst _ _, h => by simp [D.pl] at h
  | n + 1, .lst _ ds, h => pls_refl (n := n) (ds := ds) (by simpa [D.pl] using h)
  | _, .obj _ _ _, h => by simp [D.pl] at h
  | _, .ty _, h => by simp [D.pl] at h
  | _, .adr _, h => by simp [D.pl] at h
  | _, .dct _ _ _, h => by simp [D.pl] at h
  | _, .exc _ _ _, h => by simp [D.pl] at h
theorem pls_refl : ∀ {n : Nat} {ds : List D}, D.pls n ds = true → D.eqs ds ds = true
  | _, [], _ => rfl
  | n, d :: ds, h => by
    simp [D.pls] at h
    show (D.eq d d && D.eqs ds ds) = true
    rw [pl_refl h.1, pls_refl h.2]; rfl
end
/-! ## a text n times -/
def zMulS : Z2 := fun x y Q => match x, y with
  | .str a, .int n => Sd (MulOk a n) ∧ Q (.d (.str (Txt.mul a n)))
  | _, _ => False
theorem oz_muls : OpZ X (binaryOp .Mult) zMulS := by
  refine ⟨fun x y H Q => ∃ a n, x = .str a ∧ y = .int n ∧ MulOk a n ∧ Q (.str (Txt.mul a n)) H, fun pins s σ H x y v u Q I rx ry h => ?_, fun G H x y dx dy Q R hx hy q fin => ?_⟩
  · obtain ⟨a, n, rfl, rfl, ok, q⟩ := h
    obtain ⟨t, rfl⟩ := (show ∃ t, v = Value.str a t from rx)
    obtain ⟨t2, rfl⟩ := (show ∃ t, u = Value.int n t from ry)
    exact SB.mul ok fun t' tk => ⟨.str _, H, I.tok tk, ⟨_, rfl⟩, q⟩
  · unfold zMulS at q
    cases dx with
    | str a =>
      cases dy with
      | int n => obtain rfl := hx.s; obtain rfl := hy.i; exact ⟨a, n, rfl, rfl, q.1.h, fin _ H _ (rs_d (.str _)) q.2⟩
      | _ => exact q.elim
    | _ => exact q.elim
end

/-! ## dicts whose keys are written texts -/
def keyD (k : Nat) (ks : List Nat) : Bool := keyB k && ks.all keyB
def keysD : List Nat → Bool
  | [] => true
  | k :: ks => keyB k && !(ks.any (· == k)) && keysD ks
theorem keyN_ne {i j : Nat} (hi : keyB i = true) (hj : keyB j = true) (ne : i ≠ j) : keyN i ≠ keyN j := fun e => ne (keyN_inj (of_decide_eq_true hi) (of_decide_eq_true hj) e)
section
variable {K : Frag} {G : Addr → Prop} {H : Hp}
theorem look_key {k : Nat} : ∀ {ks : List Nat} {ds : List D} {kvs : List (Key × V)} {d : D}, keyD k ks = true → kvs.map (·.1) = ks.map keyN → DRs K G H (kvs.map (·.2)) ds → fldAt k ks ds = some d → ∃ v, valV kvs (keyN k) = some v ∧ DR K G H v d
  | [], ds, kvs, d, _, _, _, h => by cases h
  | n :: ns, [], kvs, d, _, _, _, h => by cases h
  | n :: ns, x :: ds, kvs, d, ok, e, r, h => by
    obtain ⟨p, l', rfl, e1, e2⟩ := map_cons_inv e
    rw [List.map_cons] at r
    cases r with
    | cons r1 r2 =>
      unfold keyD at ok
      rw [List.all_cons, Bool.and_eq_true, Bool.and_eq_true] at ok
      unfold fldAt at h
      cases q : n == k with
      | true =>
        rw [q] at h
        have e3 : n = k := by simpa using q
        subst e3
        have hx : x = d := by simpa using h
        subst hx
        exact ⟨p.2, valV_pos e1, r1⟩
      | false =>
        rw [q] at h
        have ne : n ≠ k := by simpa using q
        obtain ⟨v, hv, rv⟩ := look_key (kvs := l') (by unfold keyD; rw [ok.1, ok.2.2]; rfl) e2 r2 h
        refine ⟨v, ?_, rv⟩
        rw [valV_neg (fun z => keyN_ne ok.2.1 ok.1 ne (e1.symm.trans z))]; exact hv
theorem look_nokey {k : Nat} : ∀ {ks : List Nat} {kvs : List (Key × V)}, keyD k ks = true → kvs.map (·.1) = ks.map keyN → ks.any (· == k) = false → valV kvs (keyN k) = none
  | [], kvs, _, e, _ => by
    have : kvs = [] := by cases kvs with
      | nil => rfl
      | cons _ _ => simp at e
    subst this; rfl
  | n :: ns, kvs, ok, e, h => by
    obtain ⟨p, l', rfl, e1, e2⟩ := map_cons_inv e
    unfold keyD at ok
    rw [List.all_cons, Bool.and_eq_true, Bool.and_eq_true] at ok
    rw [List.any_cons, Bool.or_eq_false_iff] at h
    have ne : n ≠ k := by simpa using h.1
    rw [valV_neg (fun z => keyN_ne ok.2.1 ok.1 ne (e1.symm.trans z))]
    exact look_nokey (by unfold keyD; rw [ok.1, ok.2.2]; rfl) e2 h.2
theorem putN_new {k : Nat} : ∀ {ks : List Nat}, ks.any (· == k) = false → putN k ks = ks ++ [k]
  | [], _ => rfl
  | n :: ns, h => by
    rw [List.any_cons, Bool.or_eq_false_iff] at h
    unfold putN
    rw [h.1]
    show n :: putN k ns = _
    rw [putN_new h.2]; rfl
theorem putD_new {k : Nat} {d : D} : ∀ {ks : List Nat} {ds : List D}, ks.any (· == k) = false → ds.length = ks.length → putD k d ks ds = ds ++ [d]
  | [], [], _, _ => rfl
  | n :: ns, x :: ds, h, l => by
    rw [List.any_cons, Bool.or_eq_false_iff] at h
    unfold putD
    rw [h.1]
    show x :: putD k d ns ds = _
    rw [putD_new h.2 (by simpa using l)]; rfl
  | [], _ :: _, _, l => by simp at l
  | _ :: _, [], _, l => by simp at l
theorem map_no {k : Nat} {v : V} : ∀ {ks : List Nat} {kvs : List (Key × V)}, keyD k ks = true → kvs.map (·.1) = ks.map keyN → ks.any (· == k) = false → kvs.map (fun kv => if kv.1 = keyN k then (kv.1, v) else kv) = kvs
  | [], kvs, _, e, _ => by
    have : kvs = [] := by cases kvs with
      | nil => rfl
      | cons _ _ => simp at e
    subst this; rfl
  | n :: ns, kvs, ok, e, h => by
    obtain ⟨p, l', rfl, e1, e2⟩ := map_cons_inv e
    unfold keyD at ok
    rw [List.all_cons, Bool.and_eq_true, Bool.and_eq_true] at ok
    rw [List.any_cons, Bool.or_eq_false_iff] at h
    have ne : n ≠ k := by simpa using h.1
    rw [List.map_cons, if_neg (fun z => keyN_ne ok.2.1 ok.1 ne (e1.symm.trans z)), map_no (by unfold keyD; rw [ok.1, ok.2.2]; rfl) e2 h.2]
theorem put_key {k : Nat} {v : V} {d : D} (rd : DR K G H v d) {ks : List Nat} {ds : List D} {kvs : List (Key × V)} (ok : keyB k = true) (okd : keysD ks = true) (e : kvs.map (·.1) = ks.map keyN) (r : DRs K G H (kvs.map (·.2)) ds) :
    (putK kvs (keyN k) v).map (·.1) = (putN k ks).map keyN ∧ DRs K G H ((putK kvs (keyN k) v).map (·.2)) (putD k d ks ds) := by
  have all : ∀ {ks : List Nat}, keysD ks = true → ks.all keyB = true := fun {ks} h => by
    induction ks with
    | nil => rfl
    | cons n ns ih =>
      unfold keysD at h
      simp only [Bool.and_eq_true] at h
      rw [List.all_cons, h.1.1, ih h.2]; rfl
  have hl : ds.length = ks.length := by
    have h1 := r.length
    have h2 := congrArg List.length e
    simp only [List.length_map] at h1 h2
    omega
  cases q : ks.any (· == k) with
  | false =>
    have kd : keyD k ks = true := by unfold keyD; rw [ok, all okd]; rfl
    rw [putK_new v (look_nokey kd e q), putN_new q, putD_new q hl]
    refine ⟨by simp [e], ?_⟩
    rw [List.map_append]
    exact r.append (.cons rd .nil)
  | true =>
    -- there already
    have go : ∀ {ks : List Nat} {ds : List D} {kvs : List (Key × V)}, keysD ks = true → kvs.map (·.1) = ks.map keyN → DRs K G H (kvs.map (·.2)) ds → ks.any (· == k) = true →
        (kvs.any fun kv => decide (kv.1 = keyN k)) = true ∧ (kvs.map fun kv => if kv.1 = keyN k then (kv.1, v) else kv).map (·.1) = (putN k ks).map keyN ∧ DRs K G H ((kvs.map fun kv => if kv.1 = keyN k then (kv.1, v) else kv).map (·.2)) (putD k d ks ds) := by
      intro ks
      induction ks with
      | nil => intro ds kvs _ _ _ h; cases h
      | cons n ns ih =>
        intro ds kvs okd e r h
        obtain ⟨p, l', rfl, e1, e2⟩ := map_cons_inv e
        rw [List.map_cons] at r
        match ds, r with
        | x :: ds, .cons r1 r2 =>
          unfold keysD at okd
          simp only [Bool.and_eq_true, Bool.not_eq_true'] at okd
          unfold putN putD
          cases qq : n == k with
          | true =>
            have e3 : n = k := by simpa using qq
            subst e3
            have kd : keyD n ns = true := by unfold keyD; rw [okd.1.1, all okd.2]; rfl
            rw [List.map_cons, if_pos e1, map_no kd e2 okd.1.2]
            refine ⟨by rw [List.any_cons, decide_eq_true e1]; rfl, by simp [e1, e2], .cons rd r2⟩
          | false =>
            have ne : n ≠ k := by simpa using qq
            have h2 : ns.any (· == k) = true := by rw [List.any_cons, qq] at h; exact h
            obtain ⟨a1, a2, a3⟩ := ih okd.2 e2 r2 h2
            have nk : ¬ p.1 = keyN k := fun z => keyN_ne okd.1.1 ok ne (e1.symm.trans z)
            rw [List.map_cons, if_neg nk]
            exact ⟨by rw [List.any_cons, a1, Bool.or_true], by simp only [List.map_cons, a2]; rw [show p.1 = keyN n from e1], .cons r1 a3⟩
    obtain ⟨a1, a2, a3⟩ := go okd e r q
    unfold putK
    rw [if_pos a1]
    exact ⟨a2, a3⟩
end
section
variable {X : Cx} {G : Addr → Prop} {B : Hp} {Wz : WZ} {k j : Nat} {e o a b c : Expr} {es : List Expr} {t to : ZT} {pos apos cpos p : Pos}
/-- {} -/
def zDNew : ZT := fun ss Q => Q (.new (.dct [] [])) ss
theorem z_dnew : ZE X G B (.Dict [] [] pos) zDNew := by
  refine ⟨_, pe_dnewK, fun σ H ss Q R S hw fin => fun p np => ?_⟩
  have sm : Same H (upd H p (.dK [])) := fun b o e => by rw [upd_ne (ne_of_none e np)]; exact e
  exact fin (.ref p) _ (.new (.dct [] [])) ss (Kp.of sm) ⟨[p], S.alloc sm (fun a ha => by simp at ha; rw [ha]; exact np), .dct upd_same rfl .nil, by simp⟩ hw
/-- d[k] -/
def zDGet (k : Nat) (t : ZT) : ZT := fun ss Q => zN t ss fun r s => match cv s r with
  | some (.dct _ ks ds) => match fldAt k ks ds with
    | some d => Sd (keyD k ks = true) ∧ Q (.d d) s
    | none => False
  | _ => False
theorem VR.dk {K : Frag} {H : Hp} {v : V} {m : Nat} {ks : List Nat} {ds : List D} (h : VR K G H v (.dct m ks ds)) : ∃ a kvs, v = .ref a ∧ Rd H a (.dK kvs) ∧ kvs.map (·.1) = ks.map keyN ∧ DRs K G H (kvs.map (·.2)) ds := by
  cases h with
  | d h =>
    cases h with
    | dct0 a g e b => exact ⟨_, _, rfl, .inr ⟨_, a⟩, e, b⟩
    | dct1 a g e b => exact ⟨_, _, rfl, .inr ⟨_, a⟩, e, b⟩
  | k a e b => exact ⟨_, _, rfl, .inl a, e, b⟩
theorem z_dget {s : Str} {jj : Nat} {p1 : Pos} (hu : X.A.units + 1 < cLine) (he : ZE X G B e t) (hk : s = keyT.getD k "?" := by rfl) (hs : NoSl (.Constant (.str s) jj p1) := by exact fun _ _ => rfl) :
    ZE X G B (.Subscript e (.Constant (.str s) jj p1) pos) (zDGet k t) := by
  obtain ⟨te, pt, z⟩ := z_n he
  subst hk
  refine ⟨_, pe_dget hu pt pe_str hs, fun σ H ss Q R S hw fin => ?_⟩
  refine z σ H ss _ _ S hw fun v H1 r s1 k1 rr q => ?_
  cases e1 : cv s1 r with
  | none => simp only [e1] at q
  | some d =>
    cases d with
    | dct m ks ds =>
      simp only [e1] at q
      cases ef : fldAt k ks ds with
      | none => simp only [ef] at q
      | some d =>
        simp only [ef] at q
        obtain ⟨a, kvs, rfl, hr, h2, h3⟩ := (cv_vr rr.sem (Kp.refl _) rr e1).dk
        obtain ⟨w, hw, rw'⟩ := look_key q.1.h h2 h3 ef
        exact ⟨a, w, rfl, .inl ⟨kvs, keyN k, hr, rfl, hw.symm⟩, fin w H1 (.d d) s1 k1 ⟨rr.sem, rw'⟩ q.2⟩
    | _ => simp only [e1] at q
/-- the dict of a slot is written -/
theorem Sm.wrK {K : Frag} {σ : St} {H : Hp} {ss : SS} (S : Sm K G B [] σ H ss) {i : Nat} {ks : List Nat} {ds : List D} (h : ss[i]? = some (some (.dct ks ds))) : ∃ a kvs, σ[i]? = some (some (.ref a)) ∧ H a = some (.dK kvs) ∧ kvs.map (·.1) = ks.map keyN ∧ DRs K G H (kvs.map (·.2)) ds ∧
    ∀ kvs' ks' ds', kvs'.map (·.1) = ks'.map keyN → DRs K G H (kvs'.map (·.2)) ds' → Sm K G B [] σ (upd H a (.dK kvs')) (ss.set i (some (.dct ks' ds'))) ∧ Kp H (upd H a (.dK kvs')) := by
  obtain ⟨v, as, e, r, nd, S1⟩ := S.take h
  cases r with
  | @dct a kvs _ _ h1 h2 h3 =>
    refine ⟨a, kvs, e, h1, h2, h3, fun kvs' ks' ds' e' r' => ?_⟩
    have kp : Kp H (upd H a (.dK kvs')) := Kp.upd h1 trivial
    have S2 : Sm K G B [a] σ (upd H a (.dK kvs')) (ss.set i none) := by
      obtain ⟨A, W⟩ := S1.own
      refine ⟨fun b o eb => ?_, ⟨A, fun j o eb => ?_, W.nd, W.ap, W.fr, W.off⟩, S1.nn, S1.gb, S1.len⟩
      · rw [upd_ne (ne_of_none eb (S1.nn a (by simp)))]
        exact S1.keep b o eb
      · obtain ⟨w, e1, r1⟩ := W.at_ j o eb
        exact ⟨w, e1, r1.kp kp fun b hb => upd_ne fun q => (W.fr j b hb).2 (by simp [q])⟩
    have S3 := S2.put (o := .dct ks' ds') e (.dct upd_same e' (r'.kp kp)) (by simp)
    rw [List.set_set] at S3
    exact ⟨S3, kp⟩
/-- d[k] = e, d a name that owns it -/
def zDPut (i k : Nat) (t : ZT) : ZTS := fun D ss => zF t ss fun d s => match s[i]? with
  | some (some (.dct ks ds)) => Sd ((keyB k && keysD ks && decide (ks.length < 900)) = true) ∧ fc (s.set i (some (.dct (putN k ks) (putD k d ks ds)))) D.nx
  | _ => False
theorem s_dput {i : Nat} {s x : Str} {jj : Nat} {p1 np tp spos : Pos} (hu : X.A.units + 1 < cLine) (he : ZE X G B e t) (hk : s = keyT.getD k "?" := by rfl) (hN : X.N[i]? = some x := by rfl) (hv : Vis X.env.scope x := by first | exact Or.inl rfl | exact Or.inr (Or.inl rfl) | exact Or.inr (Or.inr rfl))
    (hd : (x == ("__debug__" : Str)) = false := by decide) (hcd : (x == ("__classdict__" : Str)) = false := by decide) (hs : swapsWith e (some (.Subscript (.Name x np) (.Constant (.str s) jj p1) tp)) spos.line X.env = pure false := by rfl) :
    ZS X G B (.Assign [.Subscript (.Name x np) (.Constant (.str s) jj p1) tp] e spos) (zDPut i k t) := by
  obtain ⟨te, pt, z⟩ := z_fz he
  subst hk
  refine ⟨_, ps_dput hu (pe_var hN hv hd hcd) pe_str pt hs, fun σ H ss D D' S hw ok => ?_⟩
  refine z σ H ss _ _ S hw fun v H1 d s1 k1 S1 rd q => ?_
  cases es : s1[i]? with
  | none => simp only [es] at q
  | some oo =>
    cases oo with
    | none => simp only [es] at q
    | some o =>
      cases o with
      | dct ks ds =>
        simp only [es] at q
        have sd := q.1.h
        simp only [Bool.and_eq_true] at sd
        obtain ⟨a, kvs, e1, h1, h2, h3, up⟩ := S1.wrK es
        obtain ⟨p1, p2⟩ := put_key rd sd.1.1 sd.1.2 h2 h3
        obtain ⟨S2, k2⟩ := up _ _ _ p1 p2
        have hl : kvs.length < sizeLine := by
          have := congrArg List.length h2
          simp only [List.length_map] at this
          have := of_decide_eq_true sd.2
          rw [sizeLine_eq]; omega
        exact ⟨_, e1, a, _, rfl, .inl ⟨kvs, keyN k, h1, rfl, hl, rfl⟩, ok.nx σ _ _ (k1.trans k2) S2 ((fc_iff _ _).mp q.2)⟩
      | _ => simp only [es] at q
/-! displays -/
def ZPs (X : Cx) (G : Addr → Prop) (B : Hp) (pos : Pos) (keys : List (Option Expr)) (values : List Expr) (ks : List Nat) (ts : ZTDs) : Prop := ∃ trs, PPs X pos keys values trs ∧ ∀ (σ : St) (H : Hp) (ss : SS) (Q : List D → SS → Prop) (R : List (V × V) → Hp → Prop), Sm X.K G B [] σ H ss → ts ss Q →
  (∀ (kvs : List (Key × V)) (H' : Hp) (ds : List D) (ss' : SS), Kp H H' → Sm X.K G B [] σ H' ss' → kvs.map (·.1) = ks.map keyN → DRs X.K G H' (kvs.map (·.2)) ds → Q ds ss' → R (kvs.map fun kv => (kV kv.1, kv.2)) H') → tPairs trs σ H R
theorem zp_nil : ZPs X G B pos [] [] [] zdNil := ⟨_, pps_nil, fun σ H ss Q R S hw fin => fin [] H [] ss (Kp.refl H) S rfl .nil hw⟩
theorem zp_cons {s : Str} {jj : Nat} {p1 : Pos} {keys : List (Option Expr)} {values : List Expr} {ks : List Nat} {ts : ZTDs} {v : Expr} (he : ZE X G B v t) (h : ZPs X G B pos keys values ks ts) (hk : s = keyT.getD k "?" := by rfl) :
    ZPs X G B pos (some (.Constant (.str s) jj p1) :: keys) (v :: values) (k :: ks) (zdCons t ts) := by
  obtain ⟨te, pt, z⟩ := z_fz he
  obtain ⟨trs, pp, r⟩ := h
  subst hk
  refine ⟨_, pps_cons pe_str pt pp, fun σ H ss Q R S hw fin => ?_⟩
  refine z σ H ss _ _ S hw fun w H1 d s1 k1 S1 rd q => ?_
  refine r σ H1 s1 _ _ S1 q fun kvs H2 ds s2 k2 S2 e r2 q2 => ?_
  exact fin ((keyN k, w) :: kvs) H2 (d :: ds) s2 (k1.trans k2) S2 (by simp [e]) (.cons (rd.kp k2) r2) q2
def zDisp (ks : List Nat) (ts : ZTDs) : ZT := fun ss Q => ts ss fun ds s => Sd (keysD ks = true) ∧ Q (.new (.dct ks ds)) s
theorem merge_new : ∀ {ks : List Nat} {kvs : List (Key × V)} {l : List (Key × V)}, keysD ks = true → kvs.map (·.1) = ks.map keyN → (∀ p ∈ l, ∀ q ∈ kvs, p.1 ≠ q.1) → mergeK l kvs = l ++ kvs
  | [], kvs, l, _, e, _ => by
    have : kvs = [] := by cases kvs with
      | nil => rfl
      | cons _ _ => simp at e
    subst this; simp [mergeK]
  | n :: ns, kvs, l, ok, e, h => by
    obtain ⟨p, l', rfl, e1, e2⟩ := map_cons_inv e
    unfold keysD at ok
    simp only [Bool.and_eq_true, Bool.not_eq_true'] at ok
    show mergeK (putK l p.1 p.2) l' = _
    have hn : valV l p.1 = none := by
      unfold valV
      have : (l.find? fun kv => decide (kv.1 = p.1)) = none := List.find?_eq_none.mpr fun x hx => by
        simp only [decide_eq_true_eq]; exact h x hx p List.mem_cons_self
      rw [this]; rfl
    rw [putK_new _ hn, merge_new ok.2 e2 (fun a ha q hq => ?_)]
    · simp
    · rcases List.mem_append.mp ha with ha | ha
      · exact h a ha q (List.mem_cons_of_mem _ hq)
      · simp at ha
        subst ha
        intro z
        have hq2 : q.1 ∈ ns.map keyN := by rw [← e2]; exact List.mem_map_of_mem hq
        obtain ⟨m, hm, em⟩ := List.mem_map.mp hq2
        have hmB : ∀ {ks : List Nat} {m : Nat}, keysD ks = true → m ∈ ks → keyB m = true := fun {ks} => by
          induction ks with
          | nil => intro m _ h; simp at h
          | cons a as ih =>
            intro m ok h
            unfold keysD at ok
            simp only [Bool.and_eq_true] at ok
            rcases List.mem_cons.mp h with rfl | h
            · exact ok.1.1
            · exact ih ok.2 h
        have e3 : p.1 = keyN n := e1
        have e4 : keyN n = keyN m := by rw [← e3, em]; exact z
        have e5 := keyN_inj (of_decide_eq_true ok.1.1) (of_decide_eq_true (hmB ok.2 hm)) e4
        subst e5
        have := List.any_eq_false.mp ok.1.2 n hm
        simp at this
theorem z_disp {keys : List (Option Expr)} {values : List Expr} {ks : List Nat} {ts : ZTDs} (h : ∀ B', ZPs X G B' pos keys values ks ts) (hall : keys.all (·.isSome) = true := by rfl) (hl : keys.length = values.length := by rfl) (h0 : keys ≠ [] := by exact fun z => nomatch z) (h15 : keys.length ≤ 15 := by decide)
    (hk : ks.length ≤ 15 := by decide) : ZE X G B (.Dict keys values pos) (zDisp ks ts) := by
  let trsOk : List (TE × TE) → Prop := fun trs => PPs X pos keys values trs
  obtain ⟨trs0, pp0, _⟩ := h B
  -- a reading that picks its ground when it is asked
  refine ⟨fun σ H Q => ∀ p, H p = none → ∃ (B' : Hp) (ss : SS) (Qz : List D → SS → Prop), Sm X.K G B' [] σ (upd H p (.dK [])) ss ∧ ts ss Qz ∧ ∀ (kvs : List (Key × V)) (H' : Hp) (ds : List D) (ss' : SS), Kp (upd H p (.dK [])) H' → Sm X.K G B' [] σ H' ss' → kvs.map (·.1) = ks.map keyN → DRs X.K G H' (kvs.map (·.2)) ds → Qz ds ss' → H' p = some (.dK []) ∧ Q (.ref p) (upd H' p (.dK (mergeK [] kvs))), ⟨fun pins s σ H Q I hw => ?_⟩, fun σ H ss Q R S hw fin => fun p np => ?_⟩
  · -- the ground is known only for the new dict's own place
    have hn := I.hok.fresh (Nat.le_refl s.heap.objs.size)
    obtain ⟨B', ss, Qz, S, ht, ff⟩ := hw _ hn
    obtain ⟨trs, pp, r⟩ := h B'
    have I1 := I.laid (a := s.heap.objs.size) (o := .dK []) (h' := s.heap.push { cls := .type "dict", data := .dict #[] }) (t' := s.toks) (fun _ _ q => Heap.get?_push_of_some _ q) (Nat.le_refl _) (dk_empty s.heap I.big)
    refine wpAny_Dict_walk (knd := mixKind X.prog X.w) hall hl h0 h15 (thn (pp.run pins _ σ _ _ I1 (r σ _ ss Qz (fun ps H2 => ∃ kvs : List (Key × V), ps = kvs.map (fun kv => (kV kv.1, kv.2)) ∧ kvs.length ≤ 15 ∧ H2 s.heap.objs.size = some (.dK []) ∧ Q (.ref s.heap.objs.size) (upd H2 s.heap.objs.size (.dK (mergeK [] kvs)))) S ht fun kvs H' ds ss' k' S' e' r' q' => ?_)) fun ws s2 ⟨ps, H2, I2, rel, kvs, ep, lk, e, q2⟩ => ?_)
    · obtain ⟨g1, g2⟩ := ff kvs H' ds ss' k' S' e' r' q'
      exact ⟨kvs, rfl, by have := congrArg List.length e'; simp only [List.length_map] at this; omega, g1, g2⟩
    · subst ep
      obtain ⟨rs, c, rk⟩ := carries_of (P := X.prog) (w := X.w) rel
      obtain ⟨z, hd, vs0, r0, dd⟩ := dk_of I2.hok e
      cases r0
      refine ⟨rs, c, dd, fun h' dd' hs => ⟨.ref s.heap.objs.size, _, ?_, rfl, q2⟩⟩
      have hz : (mergeK [] kvs).length ≤ sizeLine := by
        have h1 := length_mergeK kvs []
        rw [List.length_nil] at h1
        rw [sizeLine_eq]; omega
      have hex : ∃ q, h'.get? s.heap.objs.size = some q := let ⟨q, _, _, hq, _⟩ := dd'; ⟨q, hq⟩
      exact d_write I2 (by rw [e]; exact True.intro) hs hex (dk_new hz hd (rk.merge .nil) dd')
  · have sm : Same H (upd H p (.dK [])) := fun b o e => by rw [upd_ne (ne_of_none e np)]; exact e
    have S1 : Sm X.K G B [p] σ (upd H p (.dK [])) ss := S.alloc sm (fun a ha => by simp at ha; rw [ha]; exact np)
    refine ⟨_, ss, _, S1.hide upd_same, hw, fun kvs H' ds ss' k' S' e' r' q' => ?_⟩
    have hp := S'.keep p _ upd_same
    have S2 := S'.shown (S1.nn p (by simp)) S1.gb
    have em : mergeK [] kvs = kvs := by rw [merge_new q'.1.h e' (fun _ h => by simp at h)]; rfl
    have kp : Kp H' (upd H' p (.dK kvs)) := Kp.upd hp trivial
    have S3 : Sm X.K G B [p] σ (upd H' p (.dK kvs)) ss' := by
      obtain ⟨A, W⟩ := S2.own
      refine ⟨fun b o eb => ?_, ⟨A, fun j o eb => ?_, W.nd, W.ap, W.fr, W.off⟩, S2.nn, S2.gb, S2.len⟩
      · rw [upd_ne (ne_of_none eb (S2.nn p (by simp)))]
        exact S2.keep b o eb
      · obtain ⟨w, e1, r1⟩ := W.at_ j o eb
        exact ⟨w, e1, r1.kp kp fun b hb => upd_ne fun q => (W.fr j b hb).2 (by simp [q])⟩
    rw [em]
    refine ⟨hp, fin (.ref p) _ (.new (.dct ks ds)) ss' (((Kp.of sm).trans k').trans kp) ⟨[p], S3, .dct upd_same e' (r'.kp kp), by simp⟩ q'.2⟩
end

/-! ## zip of a tuple and a list -/
def ItTL (K : Frag) (a b : Addr) : It where
  go := fun i H => ∃ (xs ys : List V) (x y : V), (SqT K H a xs ∧ xs[i]? = some x) ∧ SqL K H b ys ∧ ys[i]? = some y
  yld := fun i H v H' => ∃ T x y, (v = .ref T ∧ H T = none ∧ H' = upd H T (.tup [x, y])) ∧ (∀ l, SqT K H a l → l[i]? = some x) ∧ ∀ l, SqL K H b l → l[i]? = some y
  stop := fun i H => ∃ xs ys : List V, (SqT K H a xs ∧ SqL K H b ys) ∧ (i ≤ xs.length ∧ i ≤ ys.length) ∧ (i = xs.length ∨ i = ys.length)
theorem turnTL {P : Program} {w : World} {K : Frag} {es : List Expr} {kx : Nat} {tp : Pos} {a b z A B i1 i2 : Addr} (S : ZipSep2 z A B i1 i2 [i1, a] [i2, b]) (na : a ≠ i1) (nb : b ≠ i2) :
    Turn P w K (.Tuple es kx tp) (ItTL K a b) [z, A, B, i1, i2] z (fun i h => IsZip h z A B .none ∧ IsTupOf2 h A (.ref i1) (.ref i2) ∧ (∃ x y, IsTupOf2 h B x y) ∧ h.IsTupleIter i1 a i ∧ h.IsListIter i2 b i) := by
  have fpc : ∀ {c : Addr}, c ∈ [z, A, B, i1, i2] → c = z ∨ c = A ∨ c = B ∨ c = i1 ∨ c = i2 := fun h => by simpa using h
  refine ⟨by simp, fun i h st c hc => ?_, fun i h h' st k => ?_, ?_, ?_, fun _ i s Q E st h => wpAny_pyIter_zip st.1 h⟩
  · obtain ⟨q1, q2, ⟨x, y, q3⟩, ⟨o1, q4, _, d1⟩, ⟨o2, q5, _, d2⟩⟩ := st
    rcases fpc hc with rfl | rfl | rfl | rfl | rfl
    · exact ⟨_, q1, fun _ e => nomatch e⟩
    · exact ⟨_, q2, fun _ e => nomatch e⟩
    · exact ⟨_, q3, fun _ e => nomatch e⟩
    · exact ⟨o1, q4, fun _ e => by rw [d1] at e; cases e⟩
    · exact ⟨o2, q5, fun _ e => by rw [d2] at e; cases e⟩
  · obtain ⟨q1, q2, ⟨x, y, q3⟩, q4, q5⟩ := st
    exact ⟨k _ (by simp) _ q1, k _ (by simp) _ q2, ⟨x, y, k _ (by simp) _ q3⟩, q4.at fun o e => k _ (by simp) o e, q5.at fun o e => k _ (by simp) o e⟩
  · intro X e1 e2 e3 calm i pins s σ H E I free st can
    subst e1 e2 e3
    obtain ⟨q1, q2, ⟨x0, y0, q3⟩, q4, q5⟩ := st
    obtain ⟨xs, ys, x, y, ⟨hx, ex⟩, hy, ey⟩ := can
    obtain ⟨l1, r1, p1, _⟩ := I.tuple hx
    obtain ⟨l2, r2, p2, _⟩ := I.list hy
    obtain ⟨u1, f1, g1⟩ := r1.get ex
    obtain ⟨u2, f2, g2⟩ := r2.get ey
    have hh : X.A.in1.handled = none := I.ok.hd calm
    have n1 : i < l1.toArray.size := by have := (List.getElem?_eq_some_iff.mp f1).1; simpa using this
    have n2 : i < l2.toArray.size := by have := (List.getElem?_eq_some_iff.mp f2).1; simpa using this
    refine wpAny_pyNext_zipD2_item S (Draws.tuple hh i1 a na l1.toArray) (Draws.list hh i2 b nb l2.toArray) q1 q2 q3 ⟨q4, p1⟩ ⟨q5, p2.isList⟩ n1 n2 fun v1 v2 h' tk w1 w2 z' b' t1 t2 nt hs hk => ?_
    have w1' : v1 = u1 := by
      have w1 : l1.toArray[i]? = some v1 := w1
      rw [List.getElem?_toArray, f1] at w1; cases w1; rfl
    have w2' : v2 = u2 := by
      have w2 : l2.toArray[i]? = some v2 := w2
      rw [List.getElem?_toArray, f2] at w2; cases w2; rfl
    subst w1' w2'
    refine ⟨_, rfl, wpAny_letOwnedTupleGo_zip (s := ⟨h', s.gens, s.drawn, tk, s.os⟩) z' fun h2 z2 sb => ?_⟩
    have zlt : z < s.heap.objs.size := Heap.lt_size q1
    have laid : h2.get? s.heap.objs.size = some { cls := .type "tuple", data := .seq #[v1, v2] } := (sb.2 _ (Nat.ne_of_gt zlt)).trans nt
    have fresh := I.hok.fresh (Nat.le_refl s.heap.objs.size)
    have I1 : Inv X pins σ (upd H s.heap.objs.size (.tup [x, y])) { s with heap := h2, toks := tk } :=
      I.turnedNew (ch := [z, A, B, i1, i2]) (fun c o off q => by
        have m : ∀ {d}, d ∈ [z, A, B, i1, i2] → c ≠ d := fun hd e => off (by rw [e]; exact hd)
        rw [sb.2 c (m (by simp))]
        exact hk c o (m (by simp)) (m (by simp)) (m (by simp)) (m (by simp)) q) free (Nat.le_refl _)
        ⟨by show 2 ≤ sizeLine; rw [sizeLine_eq]; decide, [v1, v2], .cons g1 (.cons g2 .nil), ⟨_, laid, rfl, _, rfl⟩⟩
    have i1z : i1 ≠ z := fun e => S.zi1 e.symm
    have i2z : i2 ≠ z := fun e => S.zi2 e.symm
    refine ⟨.ref s.heap.objs.size, _, I1, rfl, ⟨_, x, y, ⟨rfl, fresh, rfl⟩, fun l hl => by rw [I.tuple_inj hl hx]; exact ex, fun l hl => by rw [I.list_inj hl hy]; exact ey⟩, ⟨z2, ?_, ⟨v1, v2, ?_⟩, ?_, ?_⟩, fun c hc => ?_⟩
    · exact (sb.2 _ S.TIz).trans (hk _ _ S.TIz S.TITO S.TIi1 S.TIi2 q2)
    · exact (sb.2 _ S.TOz).trans b'
    · exact t1.1.at fun o e => (sb.2 _ i1z).trans e
    · exact t2.1.at fun o e => (sb.2 _ i2z).trans e
    · have lt : c < s.heap.objs.size := by
        rcases fpc hc with rfl | rfl | rfl | rfl | rfl
        · exact zlt
        · exact Heap.lt_size q2
        · exact Heap.lt_size q3
        · obtain ⟨_, e, _⟩ := q4; exact Heap.lt_size e
        · obtain ⟨_, e, _⟩ := q5; exact Heap.lt_size e
      rw [upd_ne (Nat.ne_of_lt lt)]
      exact (free c hc).1
  · intro X e1 e2 e3 calm i pins s σ H E I free st over
    subst e1 e2 e3
    obtain ⟨q1, q2, ⟨x0, y0, q3⟩, q4, q5⟩ := st
    obtain ⟨xs, ys, ⟨hx, hy⟩, ⟨m1, m2⟩, en⟩ := over
    obtain ⟨l1, r1, p1, _⟩ := I.tuple hx
    obtain ⟨l2, r2, p2, _⟩ := I.list hy
    have hh : X.A.in1.handled = none := I.ok.hd calm
    have c1 : l1.toArray.size = xs.length := by rw [List.size_toArray]; exact r1.length.symm
    have c2 : l2.toArray.size = ys.length := by rw [List.size_toArray]; exact r2.length.symm
    refine wpAny_pyNext_zipD2_end S (Draws.tuple hh i1 a na l1.toArray) (Draws.list hh i2 b nb l2.toArray) q1 q2 q3 ⟨q4, p1⟩ ⟨q5, p2.isList⟩ (by omega) (by omega) (by omega) fun h' tk hk => ⟨rfl, I.turnedL (ch := [z, A, B, i1, i2]) (fun c o off q => ?_) free⟩
    have m : ∀ {d}, d ∈ [z, A, B, i1, i2] → c ≠ d := fun hd e => off (by rw [e]; exact hd)
    exact hk c o (m (by simp)) (m (by simp)) (m (by simp)) (m (by simp)) q
def iZipTL (K : Frag) (ta : TA) : TI := fun σ H R => ta σ H fun vs H1 => ∃ a b xs ys, vs = [.ref a, .ref b] ∧ SqT K H1 a xs ∧ SqL K H1 b ys ∧ R (ItTL K a b) H1
theorem pi_zipTL {X : Cx} {e e2 : Expr} {ta : TA} {p pos tp : Pos} {es : List Expr} {kx : Nat} (hg : Gl X "zip") (hm : X.mg "zip" = none) (ha : PA X [e, e2] ta)
    (hs : starEach [e, e2] X.env = (false, eval e X.env) :: starEach [e2] X.env := by rfl) (hpl : (backTo pos (starEach [e2] X.env)).any (·.1) = false := by rfl) :
    PI X (.Tuple es kx tp) (.Call (.Name "zip" p) [e, e2] [] pos) (iZipTL X.K ta) := by
  refine ⟨fun pins s σ H R I h => ?_⟩
  refine PyProof.Rows.Call_ (ld_blt I hg hm PyProof.Rows.boot_zip (PyProof.Rows.callWith_type1 (thn (ha.run pos pins s σ H _ I h) fun us s1 ⟨vs, H1, I1, rel, a, b, xs, ys, ev, hx, hy, q⟩ => ?_) hs hpl))
  subst ev
  cases rel with
  | cons r1 rr =>
   cases rr with
   | cons r2 rr =>
    cases rr
    cases r1
    cases r2
    obtain ⟨l1, _, p1, _⟩ := I1.tuple hx
    obtain ⟨l2, _, p2, _⟩ := I1.list hy
    have la : a < s1.heap.objs.size := by obtain ⟨_, e, _⟩ := p1; exact Heap.lt_size e
    have lb : b < s1.heap.objs.size := p2.lt
    obtain ⟨N, eN⟩ : ∃ N, N = s1.heap.objs.size := ⟨_, rfl⟩
    have h1 : ∀ c ∈ [a], c < N := fun c hc => by
      rw [List.mem_singleton] at hc
      rw [hc, eN]; exact la
    have h2 : ∀ c ∈ [b], c < N := fun c hc => by
      rw [List.mem_singleton] at hc
      rw [hc, eN]; exact lb
    have T := turnTL (P := X.prog) (w := X.w) (K := X.K) (es := es) (kx := kx) (tp := tp) (zip_sep2 (N := N) (fp1 := [a]) (fp2 := [b]) h1 h2) (by rw [eN]; exact Nat.ne_of_lt la) (by rw [eN]; exact Nat.ne_of_lt (Nat.lt_succ_of_lt lb))
    refine zip_begins2 (begins_tuple a l1.toArray) (begins_list b l2.toArray) p1 p2.isList fun h' z1 z2 z3 z4 z5 sz hk => wpAny_pyIter_zip z1 ?_
    have I2 : Inv X pins σ H1 { s1 with heap := h' } := I1.kept (t' := s1.toks) hk
    rw [← eN] at z1 z2 z3 z4 z5 ⊢
    have fp : ∀ c ∈ [N + 4, N + 2, N + 3, N, N + 1], FpOk X pins H1 c := fun c hc => by
      have le : s1.heap.objs.size ≤ c := by
        rw [← eN]
        simp only [List.mem_cons, List.not_mem_nil, or_false] at hc
        omega
      exact I1.fpOk le (I1.hok.fresh le)
    have st : IsZip h' (N + 4) (N + 2) (N + 3) .none ∧ IsTupOf2 h' (N + 2) (.ref N) (.ref (N + 1)) ∧ (∃ x y, IsTupOf2 h' (N + 3) x y) ∧ h'.IsTupleIter N a 0 ∧ h'.IsListIter (N + 1) b 0 := ⟨z1, z2, ⟨_, _, z3⟩, ⟨_, z4, rfl, rfl⟩, ⟨_, z5, rfl, rfl⟩⟩
    exact ⟨_, _, _, _, H1, rfl, I2, T, st, fp, q⟩
section
variable {X : Cx} {G : Addr → Prop} {B : Hp} {a b : Expr} {ts : ZTDs} {pos p : Pos}
theorem itok_zipTL {K : Frag} {H : Hp} {a b : Addr} {xs ys : List V} {ds es : List D} (h : ∀ H1, Kp H H1 → SqT K H1 a xs) (h' : ∀ H1, Kp H H1 → SqL K H1 b ys) (r : DRs K G H xs ds) (r' : DRs K G H ys es) : ItOk K G (ItTL K a b) (zipD ds es) H := by
  have hl : (zipD ds es).length = min ds.length es.length := by unfold zipD; rw [List.length_zipWith]
  have l1 := r.length
  have l2 := r'.length
  refine ⟨fun H1 k i hi => ?_, fun H1 k i hi hi2 => ⟨xs, ys, ⟨h H1 k, h' H1 k⟩, by omega, by omega⟩⟩
  rw [hl] at hi
  have i1 : i < xs.length := by omega
  have i2 : i < ys.length := by omega
  refine ⟨⟨xs, ys, xs[i], ys[i], ⟨h H1 k, List.getElem?_eq_getElem i1⟩, h' H1 k, List.getElem?_eq_getElem i2⟩, fun v H2 y => ?_⟩
  obtain ⟨T, x, y, ⟨rfl, n, rfl⟩, hx, hy⟩ := y
  obtain ⟨d, e1, rd⟩ := r.get' (hx xs (h H1 k))
  obtain ⟨d', e2, rd'⟩ := r'.get' (hy ys (h' H1 k))
  obtain ⟨sm, rt⟩ := tupH n (rd.kp k) (rd'.kp k)
  exact ⟨sm, _, by unfold zipD; rw [List.getElem?_zipWith, e1, e2], rt⟩
def ziZipTL (ts : ZTDs) : ZTI := fun ss Q => ts ss fun ds s => match ds with
  | [.tup xs, .lst _ ys] => Q (zipD xs ys) s
  | _ => False
theorem zi_zipTL {elts : List Expr} {kk : Nat} {tpos : Pos} (hm : X.mg "zip" = none) (ha : ZDs X G B [a, b] ts) (hg : Gl X "zip" := by rfl) (hs : starEach [a, b] X.env = (false, eval a X.env) :: starEach [b] X.env := by rfl) (hpl : (backTo pos (starEach [b] X.env)).any (·.1) = false := by rfl) :
    ZIt X G B (.Tuple elts kk tpos) (.Call (.Name "zip" p) [a, b] [] pos) (ziZipTL ts) := by
  obtain ⟨te, pa, r⟩ := ha
  refine ⟨_, pi_zipTL hg hm pa hs hpl, fun σ H ss Q R S hw fin => ?_⟩
  refine r σ H ss _ _ S hw fun vs H1 ds s1 k1 S1 rs q => ?_
  match ds, vs, rs, q with
  | [.tup xs, .lst m' ys], [v, v'], .cons r1 (.cons r2 .nil), q =>
    cases r1 with
    | @tup a ws _ h1 h2 =>
      obtain ⟨b, us, rfl, g1, g2⟩ := r2.lq
      exact ⟨a, b, ws, us, rfl, h1, g1 H1 (Kp.refl _), fin _ H1 _ s1 k1 S1 (itok_zipTL (fun H1 k => sqT_kp k h1) g1 h2 g2) q⟩
end
/-! ## list(text), sorted(text) -/
section
variable {X : Cx}
theorem signs_are {z : Str} {acc : Array Value} (h : ItemsOf (SignAt z) acc z.cps.size) : PyProof.Rows.StrsAre acc.toList (z.cps.toList.map fun c => (⟨#[c]⟩ : Str)) := by
  refine strs_at (by rw [Array.length_toList, h.1, List.length_map, Array.length_toList]) fun j v e => ?_
  obtain ⟨c, u, hc, rfl⟩ := h.2 j v (by rw [← Array.getElem?_toList]; exact e)
  exact ⟨⟨#[c]⟩, u, by rw [List.getElem?_map, Array.getElem?_toList, hc]; rfl, rfl⟩
def sgs (z : Str) : List Str := z.cps.toList.map fun c => ⟨#[c]⟩
theorem sgs_len (z : Str) : (sgs z).length = z.length := by unfold sgs; rw [List.length_map, Array.length_toList]; rfl
theorem call_listS (calm : X.calm = true) : CallR X (.type "list") (fun xs H Q => ∃ z : Str, xs = [.str z] ∧ z.length ≤ sizeLine ∧ ∀ p, H p = none → Q (.ref p) (upd H p (.lst ((sgs z).map V.str)))) := by
  intro pins s σ H xs us Q I r hq
  obtain ⟨z, rfl, hz, q⟩ := hq
  obtain ⟨u, rfl, rx⟩ := vals1 r
  obtain ⟨t, rfl⟩ := (show ∃ t, u = Value.str z t from rx)
  refine call_list_str (I.ok.hd calm) z t (fun h' tk acc c' hk laid items => ?_) hz
  exact ⟨.ref _, upd H s.heap.objs.size (.lst ((sgs z).map V.str)), I.laid (t' := tk) hk (Nat.le_refl _)
    ⟨by rw [List.length_map, sgs_len]; exact hz, acc.toList, c', vals_of_strs (signs_are items), by rw [Array.toArray_toList]; exact laid⟩, rfl, q _ (I.hok.fresh (Nat.le_refl _))⟩
theorem call_sortedX (calm : X.calm = true) : CallR X (.builtin "sorted") (fun xs H Q => ∃ z : Str, xs = [.str z] ∧ z.length < 64 ∧ ∀ ys p, ys.Perm (sgs z) → PyProof.Rows.sortedS ys = true → H p = none → Q (.ref p) (upd H p (.lst (ys.map V.str)))) := by
  intro pins s σ H xs us Q I r hq
  obtain ⟨z, rfl, hz, q⟩ := hq
  obtain ⟨u, rfl, rx⟩ := vals1 r
  obtain ⟨t, rfl⟩ := (show ∃ t, u = Value.str z t from rx)
  have hz2 : z.cps.size < 64 := hz
  refine Calls.call_function_entry PyProof.Rows.kind_sorted PyProof.Rows.plain_sorted PyProof.Rows.entry_sorted (PyProof.Rows.args_sorted1 _) ?_
  unfold Builtin.«sorted»
  refine wpAny_bind (m := checkCount "sorted" 1 1 _) (wpAny_pure ?_)
  have hh : X.A.in1.handled = none := I.ok.hd calm
  refine wpAny_bind (wpAny_collect_str hh z t (fun s1 acc hk eg ed eo items => ?_) (by rw [sizeLine_eq]; omega))
  obtain ⟨h1, g1, d1, t1, o1⟩ := s1
  dsimp only at eg ed eo hk
  subst eg ed eo
  have la : acc.toList.length = z.cps.size := by rw [Array.length_toList]; exact items.1
  have ss := signs_are items
  have J : Inv X pins σ H { s with heap := h1, toks := t1 } := I.kept hk
  refine wpAny_bind (wpAny_newList ?_ (by rw [la, sizeLine_eq]; omega))
  have at1 : (h1.push (PyProof.Rows.seqObj "list" acc.toList.toArray 0)).get? h1.objs.size = some (PyProof.Rows.seqObj "list" acc.toList.toArray 0) := Heap.get?_push_size _ rfl
  show wpAny _ _ _ _ _ { s with heap := h1.push (PyProof.Rows.seqObj "list" acc.toList.toArray 0), toks := t1 }
  refine wpAny_bind (wpAny_holding (wpAny_call_entry PyProof.Rows.slot_list_sort ⟨_, at1, rfl⟩ PyProof.Rows.entry_list_sort
    (PyProof.Rows.list_sort_treeK PyProof.Rows.strKind_oneLt (s := { s with heap := h1.push (PyProof.Rows.seqObj "list" acc.toList.toArray 0), toks := t1 }) at1 ss.keysOf (fun a b rest e => PyProof.Rows.keyKind_strs (by rw [← e]; exact ss)) (by rw [la]; exact hz2) fun st sp so => ⟨_, rfl, ?_⟩)
    (PyProof.Rows.args_list_sort _)))
  obtain ⟨ys, y1, y2, y3⟩ := PyProof.Rows.sorted_out_str ss sp so
  obtain ⟨e', he'⟩ := PyProof.Rows.sortedHeap_at (vs := acc.toList) (out := (PyProof.Rows.arrOf st).map (·.2)) at1
  have ly : (ys.map V.str).length ≤ sizeLine := by
    have := sgs_len z
    rw [List.length_map, y2.length_eq]
    show (sgs z).length ≤ _
    rw [this, sizeLine_eq]; omega
  refine wpAny_pure ⟨_, rfl, .ref h1.objs.size, upd H h1.objs.size (.lst (ys.map V.str)), J.laid (t' := t1) (fun b u e => ?_) (Nat.le_refl _)
    ⟨ly, ((PyProof.Rows.arrOf st).map (·.2)).toList, e', vals_of_strs y1, by rw [Array.toArray_toList]; exact he'⟩, rfl, q ys _ y2 y3 (J.hok.fresh (Nat.le_refl _))⟩
  have lb : b < h1.objs.size := Heap.lt_size e
  rw [PyProof.Rows.sortedHeap_old (Nat.ne_of_lt lb) (by rw [PyProof.Rows.size_push']; exact Nat.lt_succ_of_lt lb)]
  exact Heap.get?_push_of_some _ e
def zListSC : ZL := fun ds Q => match ds with
  | [.str z] => Sd (z.length ≤ sizeLine) ∧ Q (.new (.lst ((sgs z).map D.str)))
  | [.lst m xs] => zListC [.lst m xs] Q
  | [.tup xs] => zListC [.tup xs] Q
  | _ => False
theorem cz_listS (calm : X.calm = true) : CalZ X (.type "list") zListSC := by
  obtain ⟨r0, h0, k0⟩ := (cz_list : CalZ X (.type "list") zListC)
  refine ⟨_, (call_listS calm).or h0, fun G H vs ds Q R h q fin => ?_⟩
  match ds, q with
  | [.str z], q =>
    obtain ⟨v, rfl, r⟩ := h.one
    obtain rfl := r.s
    exact .inl ⟨z, rfl, q.1.h, fun p np => fin _ _ _ (rs_new np (DRs_strs _)) q.2⟩
  | [.lst m xs], q => exact .inr (k0 G H vs _ Q R h q fin)
  | [.tup xs], q => exact .inr (k0 G H vs _ Q R h q fin)
def zSortedSC : ZL := fun ds Q => ∃ z : Str, ds = [.str z] ∧ Sd (z.length < 64) ∧ ∀ ys : List Str, ys.Perm (sgs z) → PyProof.Rows.sortedS ys = true → Q (.new (.lst (ys.map D.str)))
theorem cz_sortedS (calm : X.calm = true) : CalZ X (.builtin "sorted") zSortedSC := by
  refine ⟨_, call_sortedX calm, fun G H vs ds Q R h q fin => ?_⟩
  obtain ⟨z, rfl, hz, q⟩ := q
  obtain ⟨v, rfl, r⟩ := h.one
  obtain rfl := r.s
  exact ⟨z, rfl, hz.h, fun ys p h1 h2 np => fin _ _ _ (rs_new np (DRs_strs _)) (q ys h1 h2)⟩
end

section
variable {X : Cx} {G : Addr → Prop} {B : Hp} {Wz : WZ} {k j : Nat} {e o a b c : Expr} {es : List Expr} {t to : ZT} {pos apos cpos p : Pos}
/-! ## dicts by a name's text -/
theorem DR.str' {K : Frag} {H : Hp} {v : V} {z : Str} (h : DR K G H v (.str z)) : v = .str z := by cases h; rfl
/-- d[n], n a name that holds a text -/
def zDGetV (j : Nat) (t : ZT) : ZT := fun ss Q => zN t ss fun r s => match s[j]? with
  | some (some (.pure (.str z))) => match cv s r with
    | some (.dct _ ks ds) => ∃ k, Sd (z = keyT.getD k "?") ∧ (match fldAt k ks ds with
      | some d => Sd (keyD k ks = true) ∧ Q (.d d) s
      | none => False)
    | _ => False
  | _ => False
theorem z_dgetV {x : Str} {np : Pos} (j : Nat) (hu : X.A.units + 1 < cLine) (he : ZE X G B e t) (hN : X.N[j]? = some x := by rfl) (hv : Vis X.env.scope x := by first | exact Or.inl rfl | exact Or.inr (Or.inl rfl) | exact Or.inr (Or.inr rfl))
    (hd : (x == ("__debug__" : Str)) = false := by decide) (hcd : (x == ("__classdict__" : Str)) = false := by decide) (hs : NoSl (.Name x np) := by exact fun _ _ => rfl) :
    ZE X G B (.Subscript e (.Name x np) pos) (zDGetV j t) := by
  obtain ⟨te, pt, z⟩ := z_n he
  refine ⟨_, pe_dget hu pt (pe_var hN hv hd hcd) hs, fun σ H ss Q R S hw fin => ?_⟩
  refine z σ H ss _ _ S hw fun v H1 r s1 k1 rr q => ?_
  cases ej : s1[j]? with
  | none => simp only [ej] at q
  | some oo =>
    cases oo with
    | none => simp only [ej] at q
    | some o =>
      cases o with
      | pure dj =>
        cases dj with
        | str zz =>
          simp only [ej] at q
          obtain ⟨vj, evj, rj⟩ := rr.sem.pure ej
          cases rj.str'
          cases e1 : cv s1 r with
          | none => simp only [e1] at q
          | some d =>
            cases d with
            | dct m ks ds =>
              simp only [e1] at q
              obtain ⟨k, ek, q⟩ := q
              have ek := ek.h
              cases ef : fldAt k ks ds with
              | none => simp only [ef] at q
              | some d =>
                simp only [ef] at q
                obtain ⟨a, kvs, rfl, hr, h2, h3⟩ := (cv_vr rr.sem (Kp.refl _) rr e1).dk
                obtain ⟨w, hw, rw'⟩ := look_key q.1.h h2 h3 ef
                exact ⟨_, evj, a, w, rfl, .inl ⟨kvs, keyN k, hr, by rw [ek]; rfl, hw.symm⟩, fin w H1 (.d d) s1 k1 ⟨rr.sem, rw'⟩ q.2⟩
            | _ => simp only [e1] at q
        | _ => simp only [ej] at q
      | _ => simp only [ej] at q
/-- d[n] = e, d a name that owns it, n a name that holds a text -/
def zDPutV (i j : Nat) (t : ZT) : ZTS := fun D ss => zF t ss fun d s => match s[j]? with
  | some (some (.pure (.str z))) => match s[i]? with
    | some (some (.dct ks ds)) => ∃ k, Sd (z = keyT.getD k "?") ∧ Sd ((keyB k && keysD ks && decide (ks.length < 900)) = true) ∧ fc (s.set i (some (.dct (putN k ks) (putD k d ks ds)))) D.nx
    | _ => False
  | _ => False
theorem s_dputV {i j : Nat} {x y : Str} {np np2 tp spos : Pos} (hu : X.A.units + 1 < cLine) (he : ZE X G B e t) (hN : X.N[i]? = some x := by rfl) (hv : Vis X.env.scope x := by first | exact Or.inl rfl | exact Or.inr (Or.inl rfl) | exact Or.inr (Or.inr rfl))
    (hd : (x == ("__debug__" : Str)) = false := by decide) (hcd : (x == ("__classdict__" : Str)) = false := by decide)
    (hN2 : X.N[j]? = some y := by rfl) (hv2 : Vis X.env.scope y := by first | exact Or.inl rfl | exact Or.inr (Or.inl rfl) | exact Or.inr (Or.inr rfl))
    (hd2 : (y == ("__debug__" : Str)) = false := by decide) (hcd2 : (y == ("__classdict__" : Str)) = false := by decide) (hs : swapsWith e (some (.Subscript (.Name x np) (.Name y np2) tp)) spos.line X.env = pure false := by rfl) :
    ZS X G B (.Assign [.Subscript (.Name x np) (.Name y np2) tp] e spos) (zDPutV i j t) := by
  obtain ⟨te, pt, z⟩ := z_fz he
  refine ⟨_, ps_dput hu (pe_var hN hv hd hcd) (pe_var hN2 hv2 hd2 hcd2) pt hs, fun σ H ss D D' S hw ok => ?_⟩
  refine z σ H ss _ _ S hw fun v H1 d s1 k1 S1 rd q => ?_
  cases ej : s1[j]? with
  | none => simp only [ej] at q
  | some oo =>
    cases oo with
    | none => simp only [ej] at q
    | some o =>
      cases o with
      | pure dj =>
        cases dj with
        | str zz =>
          simp only [ej] at q
          obtain ⟨vj, evj, rj⟩ := S1.pure ej
          cases rj.str'
          cases es : s1[i]? with
          | none => simp only [es] at q
          | some oo =>
            cases oo with
            | none => simp only [es] at q
            | some o =>
              cases o with
              | dct ks ds =>
                simp only [es] at q
                obtain ⟨k, ek, q⟩ := q
                have ek := ek.h
                have sd := q.1.h
                simp only [Bool.and_eq_true] at sd
                obtain ⟨a, kvs, e1, h1, h2, h3, up⟩ := S1.wrK es
                obtain ⟨p1, p2⟩ := put_key rd sd.1.1 sd.1.2 h2 h3
                obtain ⟨S2, k2⟩ := up _ _ _ p1 p2
                have hl : kvs.length < sizeLine := by
                  have := congrArg List.length h2
                  simp only [List.length_map] at this
                  have := of_decide_eq_true sd.2
                  rw [sizeLine_eq]; omega
                exact ⟨_, e1, _, evj, a, _, rfl, .inl ⟨kvs, keyN k, h1, by rw [ek]; rfl, hl, rfl⟩, ok.nx σ _ _ (k1.trans k2) S2 ((fc_iff _ _).mp q.2)⟩
              | _ => simp only [es] at q
        | _ => simp only [ej] at q
      | _ => simp only [ej] at q
/-! ## methods of a list that has just been made -/
def zMetN0 (z : ZMt) (t : ZT) : ZT := fun ss Q => t ss fun r s => match r with
  | .new (.lst ds) => z ds [] fun d _ => Q (.d d) s
  | _ => False
def zMetN1 (z : ZMt) (t : ZT) (i : Int) : ZT := fun ss Q => t ss fun r s => match r with
  | .new (.lst ds) => z ds [.int i] fun d _ => Q (.d d) s
  | _ => False
theorem RR.newl {K : Frag} {σ : St} {H : Hp} {ss : SS} {v : V} {ds : List D} (h : RR K G B σ H ss v (.new (.lst ds))) : ∃ a xs, v = .ref a ∧ H a = some (.lst xs) ∧ DRs K G H xs ds ∧ ∀ ys, Sm K G B [] σ (upd H a (.lst ys)) ss ∧ Kp H (upd H a (.lst ys)) := by
  obtain ⟨as, S, r, nd⟩ := h
  cases r with
  | @lst a xs _ h1 h2 => exact ⟨a, xs, rfl, h1, h2, fun ys => ⟨(S.wrN h1).1.weak, (S.wrN h1).2⟩⟩
theorem z_metN0 {name : Str} {id : String} {z : ZMt} (hz : MtZ X id z) (pa : PlainAttrs "list") (slot : Slot "list" name id) (hty : typeOf (.builtin id) = pure (.type "method_descriptor")) (he : ZE X G B o t)
    (hbase : attributeBase o name X.env (eval o X.env) = eval o X.env := by rfl) (hline : (apos.endLine == cpos.line) = true := by rfl) :
    ZE X G B (.Call (.Attribute o name apos) [] [] cpos) (zMetN0 z t) := by
  obtain ⟨r, h1, h2⟩ := hz
  obtain ⟨te, pt, rz⟩ := he
  refine ⟨_, pe_bm0 pa slot hty h1 pt hbase hline, fun σ H ss Q R S hw fin => ?_⟩
  refine rz σ H ss _ _ S hw fun v H1 rv s1 k1 rr q => ?_
  cases rv with
  | new o =>
    cases o with
    | lst ds =>
      obtain ⟨a, xs, rfl, ha, rs, up⟩ := rr.newl
      refine Or.inl ⟨rfl, xs, SqL.of ha⟩ |> fun w => ⟨w, h2 G H1 a xs [] ds [] _ _ ha rs .nil q fun v d xs' ds' rd rds q2 => ?_⟩
      obtain ⟨S2, k2⟩ := up xs'
      exact fin v _ (.d d) s1 (k1.trans k2) (.d' S2 (rd.kp k2)) q2
    | _ => exact q.elim
  | _ => exact q.elim
theorem z_metN1 {name : Str} {id : String} {z : ZMt} {i : Int} {ip : Nat} {p1 : Pos} (hz : MtZ X id z) (pa : PlainAttrs "list") (slot : Slot "list" name id) (hty : typeOf (.builtin id) = pure (.type "method_descriptor")) (he : ZE X G B o t)
    (hbase : attributeBase o name X.env (eval o X.env) = eval o X.env := by rfl)
    (hfew : ((backTo cpos (starEach [.Constant (.int i) ip p1] X.env)).all (fun x => !x.1) && (backToKw cpos (keywordEach [] X.env)).all (fun x => x.1.isSome)
      && decide (([.Constant (.int i) ip p1] : List Expr).length + ([] : List Keyword).length + (if ([] : List Keyword).isEmpty then 0 else 1) < 30)) = true := by rfl)
    (hline : (apos.endLine == cpos.line) = true := by rfl) (hs : starEach [.Constant (.int i) ip p1] X.env = (false, eval (.Constant (.int i) ip p1) X.env) :: starEach [] X.env := by rfl) (hplain : (backTo cpos (starEach [] X.env)).any (·.1) = false := by rfl) :
    ZE X G B (.Call (.Attribute o name apos) [.Constant (.int i) ip p1] [] cpos) (zMetN1 z t i) := by
  obtain ⟨r, h1, h2⟩ := hz
  obtain ⟨te, pt, rz⟩ := he
  refine ⟨_, pe_bm pa slot hty h1 pt (pa_cons pe_int pa_nil hs) hbase hfew hline hs hplain, fun σ H ss Q R S hw fin => ?_⟩
  refine rz σ H ss _ _ S hw fun v H1 rv s1 k1 rr q => ?_
  cases rv with
  | new o =>
    cases o with
    | lst ds =>
      obtain ⟨a, xs, rfl, ha, rs, up⟩ := rr.newl
      refine Or.inl ⟨rfl, xs, SqL.of ha⟩ |> fun w => ⟨w, h2 G H1 a xs [.int i] ds [.int i] _ _ ha rs (.cons (.int i) .nil) q fun v d xs' ds' rd rds q2 => ?_⟩
      obtain ⟨S2, k2⟩ := up xs'
      exact fin v _ (.d d) s1 (k1.trans k2) (.d' S2 (rd.kp k2)) q2
    | _ => exact q.elim
  | _ => exact q.elim
def zInsC : ZMt := fun ds es Q => match es with
  | [.int i, d] => Sd (ds.length < sizeLine) ∧ Sd (0 ≤ i ∧ i < 2 ^ 63) ∧ Q .non (ds.take i.toNat ++ [d] ++ ds.drop i.toNat)
  | _ => False
theorem mz_insert : MtZ X "list.insert" zInsC := by
  refine ⟨_, mt_insert, fun G H l xs vs ds es Q R hl rx rv q fin => ?_⟩
  match es, rv, q with
  | [.int i, d], .cons r (.cons r2 .nil), q =>
    cases r
    obtain ⟨h0, h1, q⟩ := q
    exact ⟨l, xs, i, _, rfl, rfl, hl, by rw [rx.length]; exact h0.h, h1.h.1, h1.h.2, fin _ _ _ _ .non (((rx.take _).append (.cons r2 .nil)).append (rx.drop _)) q⟩
/-! ## int(text) -/
def zIntTC : ZL := fun ds Q => match ds with
  | [.str a] => ∃ n : Int, Sd (PySem.intText? a = some n) ∧ Sd (a.length ≤ 640) ∧ Q (.d (.int n))
  | _ => False
theorem cz_intT : CalZ X (.type "int") zIntTC := by
  refine ⟨_, call_int_str, fun G H vs ds Q R h q fin => ?_⟩
  match ds, h, q with
  | [.str a], h, q =>
    obtain ⟨n, h1, h2, q⟩ := q
    obtain ⟨v, rfl, r⟩ := h.one
    obtain rfl := r.s
    exact ⟨a, n, rfl, h1.h, h2.h, fin _ H _ (rs_d (.int _)) q⟩
end

section
open PySem.Spec PyProof.Rows
/-! ## a def called in a handler: it raises nothing -/
/-- what a def does wherever it is called -/
structure FnC (P : Program) (w : World) (K : Frag) (mg : Str → Option Value) (base : Heap) (k : Nat) (f : Addr) (fd : FuncData) (ps : List Str) (sp : Sp) : Prop where
  len : ∀ vs H Q E, sp vs H Q E → vs.length = ps.length
  run : ∀ (A : Around) (outer : List Env) (s : Shared) (H : Hp) (args : Args) (us : List Value) (vs : List V) (Q : VK) (E : XK), L2H.RoomH k A → Env0 P w K mg base A outer s H → BindsTo s fd args (ps.zip us) → Vals vs us → sp vs H Q E →
    codeAny (model P w) A (.call (.ref f) args) (CR (L2.CX P w) outer P w H s Q E) s
theorem not_frame {h base : Heap} {a : Addr} {o : Obj} (e : base.get? a = some o) : ∀ {l : List Env}, h.FunFrames base l → a ∉ frs l := by
  intro l hl m
  induction l with
  | nil => exact absurd m (by simp [frs])
  | cons env rest ih =>
    obtain ⟨_, ⟨L, o', hf, hn, _, _⟩, hr⟩ := hl
    have m' : a ∈ (env :: rest).filterMap (·.frame) := m
    rw [List.filterMap_cons, hf] at m'
    rcases List.mem_cons.mp m' with q | q
    · rw [q, hn] at e; cases e
    · exact ih hr q
theorem fn_C {P : Program} {w : World} {K : Frag} {mg : Str → Option Value} {base : Heap} {x qual : Str} {st : Stmt} {f : Addr} {fd : FuncData} {N ps : List Str} {k : Nat} {sp : Sp} (F : Fun K x qual st f fd) (S : FnScope N ps (defScope st)) (len : ∀ vs H Q E, sp vs H Q E → vs.length = ps.length)
    (hbody : ∀ (cdv : Value) (A : Around) (outer : List Env) (s : Shared) (H : Hp) (vs : List V) (Q : VK) (E : XK) (p : Addr × Obj), L2H.RoomH k (A.deeper (envOfC qual (defScope st) s.heap.objs.size f cdv)) → sp vs H Q E →
      ∃ t, PSs (L2H.cxH (L2.CX P w) P w K mg base N qual (defScope st) f cdv A outer s H E p) (defBody st) t ∧ t { nx := fun _ H' => Q .non H', rt := Q } (start N vs) H) : FnC P w K mg base (k + 1) f fd ps sp := by
  obtain ⟨oc, od, kV, doc, pm, an, cdv, ct, osl, rfl, lk, hcd⟩ := F.ex
  refine ⟨len, fun A outer s H args us vs Q E hr e0 hb r hsp => ?_⟩
  have hl := len _ _ _ _ hsp
  have KX : K.In s.heap := e0.mod.kin.keeps fun b o e => (e0.bs b o e).1
  have lim : s.heap.NoLimit := e0.mod.nolimit.keeps fun b o e => (e0.bs b o e).1
  have hbase := e0.mod.kin _ _ lk
  obtain ⟨hget, hfree⟩ := e0.bs _ _ hbase
  have hpin : L2H.PinOk outer H s (f, _) := ⟨hget, hfree, not_frame hbase e0.funs, fun v => by intro q; cases q⟩
  have hkind : ∀ y ∈ ps.zip us, (defScope st).names.lookup y.1 = some .local ∨ ((defScope st).names.lookup y.1 = some .cell ∧ ((cellsFrom (s.heap.objs.size + 1) (defScope st).names []).lookup y.1).isSome = true) := fun ⟨n, v⟩ hy => by
    rcases S.par n (List.of_mem_zip hy).1 with q | q
    · exact .inl q
    · exact .inr ⟨q, PySem.W.cellsFrom_some _ _ _ (.inl q)⟩
  refine codeAny_call_function hr.depth (KX _ _ lk) rfl S.co S.gen rfl (PySem.W.codeRec_of KX hcd) (hb _ _ _ _ ?_)
  refine wpAny_newFunctionEnv_cells S.kind hkind fun env he s1 x => ?_
  subst he
  refine ⟨lim.keeps x.toInCall.keep, codeAny_func ?_⟩
  obtain ⟨t, ht, hq⟩ := hbody cdv A outer s H vs Q E (f, _) (hr.deeper _) hsp
  have I := L2H.inv_startH (CX := L2.CX P w) (E := E) S hpin e0 hl r x
  refine wpAny_mono (ht.run [] s1 (L2.start N vs) H _ I hq) (fun fl s' hs => ?_) fun e s' hs => hs
  cases fl with
  | ret u =>
    obtain ⟨v, σ', H', J, rv, q⟩ := hs
    exact ⟨v, H', J.os, J.bare, J.base, J.hok, rv, q⟩
  | next =>
    obtain ⟨σ', H', J, q⟩ := hs
    exact ⟨V.non, H', J.os, J.bare, J.base, J.hok, rfl, q⟩
  | brk =>
    obtain ⟨_, _, _, q⟩ := hs
    exact q.elim
  | cont =>
    obtain ⟨_, _, _, q⟩ := hs
    exact q.elim
end
section
variable {X : Cx} {G : Addr → Prop} {B : Hp} {k j : Nat} {f : Addr} {fd : FuncData} {ps : List Str} {sp : Sp} {fs : FS} {x : Str} {e : Expr} {es : List Expr} {t : TA} {ts : ZTA} {q pos : Pos}
theorem run_C {pins : List (Addr × Obj)} {σ : St} {H : Hp} {s : Shared} {Q : VK} {us : List Value} {vs : List V} (F : FnC X.prog X.w X.K X.mg X.base k f fd ps sp) (hr : L2H.RoomH k X.A) (hb : Binds X.K fd ps [])
    (I : Inv X pins σ H s) (r : Vals vs us) (h : sp vs H Q fun _ _ _ => False) : wpAny (model X.prog X.w) X.A (call (.ref f) us) (EP X pins σ Q) X.xe s := by
  have hl : us.length = ps.length := by rw [← r.length]; exact F.len _ _ _ _ h
  have b := hb s us I.kIn (by rw [List.append_nil]; exact hl)
  rw [List.append_nil] at b
  refine wpAny_call (codeAny_mono (F.run X.A X.stack s H ⟨us, []⟩ us vs Q _ hr I.env0 b r h) fun r s' hq => ?_)
  cases r with
  | error e =>
    obtain ⟨_, _, _, _, _, _, _, _, _, _, _, _, _, _, _, _, w⟩ := XE.of_call (W := fun _ _ _ _ => False) I (fun _ _ _ hh => hh) hq
    exact w.elim
  | ok fl =>
    cases fl with
    | ret u => exact I.after hq
    | next => exact False.elim hq
    | brk => exact False.elim hq
    | cont => exact False.elim hq
def tCallC (sp : Sp) (t : TA) : TE := fun σ H Q => t σ H fun vs H1 => sp vs H1 Q fun _ _ _ => False
theorem pe_callC (F : FnC X.prog X.w X.K X.mg X.base k f fd ps sp) (hr : L2H.RoomH k X.A) (hg : Gl X x) (hm : X.mg x = some (.ref f)) (hk : PySem.W.keepIn X.K (.ref f) = true) (hb : Binds X.K fd ps [])
    (ha : PA X (e :: es) t) (hdb : (x == ("__debug__" : Str)) = false := by decide) (he : starEach (e :: es) X.env = (false, eval e X.env) :: starEach es X.env := by rfl) (hpl : (backTo pos (starEach es X.env)).any (·.1) = false := by rfl) :
    PE X (.Call (.Name x q) (e :: es) [] pos) (tCallC sp t) := by
  refine ⟨fun pins s σ H Q I h => ?_⟩
  refine wpAny_Call_Name_kw (ld_glob I hg hm ?_ hdb)
  refine PySem.W.callWith_K (h₀ := X.base) I.ok.mod.kin hk (thn (ha.run pos pins s σ H _ I h) fun us s1 ⟨vs, H1, I1, r, q⟩ => ⟨I1.kIn, ?_⟩) he hpl
  exact run_C F hr hb I1 r q
/-- f(..) in a handler: nothing is lent, nothing raised -/
def zCallC (f : FS) (ts : ZTA) : ZT := fun ss Q => ts ss fun rs s => match cvs s rs with
  | some ds => match hasLoc rs with
    | false => f ds (fun r => Q r s) fun _ _ _ => False
    | true => False
  | none => False
theorem z_callC (hr : L2H.RoomH k X.A) (F : FnC X.prog X.w X.K X.mg X.base j f fd ps (toSp X.K fs)) (hj : j ≤ k) (hm : X.mg x = some (.ref f)) (hk : PySem.W.keepIn X.K (.ref f) = true) (hb : Binds X.K fd ps [])
    (ha : ZA X G B (e :: es) ts) (hg : Gl X x := by rfl) (hdb : (x == ("__debug__" : Str)) = false := by decide) (he : starEach (e :: es) X.env = (false, eval e X.env) :: starEach es X.env := by rfl) (hpl : (backTo pos (starEach es X.env)).any (·.1) = false := by rfl) :
    ZE X G B (.Call (.Name x q) (e :: es) [] pos) (zCallC fs ts) := by
  obtain ⟨te, pa, za⟩ := ha
  refine ⟨_, pe_callC F (hr.mono hj) hg hm hk hb pa hdb he hpl, fun σ H ss Q R S hw fin => ?_⟩
  refine za σ H ss _ _ S hw fun vs H1 rs s1 k1 S1 ar q => ?_
  cases ec : cvs s1 rs with
  | none => simp only [ec] at q
  | some ds =>
    simp only [ec] at q
    cases eh : hasLoc rs with
    | true => simp only [eh] at q
    | false =>
      simp only [eh] at q
      have rr := noLoc ar ec eh
      exact ⟨G, ds, _, _, fun a ga => (by obtain ⟨o, h⟩ := S1.gb a ga; exact ⟨o, S1.keep _ _ h⟩), rr, q, fun v H' r rs' qq => fin v H' r s1 (k1.trans (Kp.of rs'.same)) (rs'.rr S1) qq, fun cls d H' c ns es sm xr w => w⟩
theorem room_su {a : Addr} {pn : List (Addr × Obj)} (h : Room k X.A) : L2H.RoomH k (X.suite a pn).A := ⟨h.dp, h.un⟩
theorem fn_zC {P : Program} {w : World} {K : Frag} {mg : Str → Option Value} {base : Heap} {x qual : Str} {st : Stmt} {f : Addr} {fd : FuncData} {N ps : List Str} {k : Nat} {fs : FS} (F : Fun K x qual st f fd) (S : FnScope N ps (defScope st))
    (hl : ∀ ds Q E, fs ds Q E → ds.length = ps.length) (zs : WZ → ZTS)
    (body : ∀ (cdv : Value) (A : Around) (outer : List Env) (s : Shared) (H : Hp) (E : XK) (p : Addr × Obj) (G : Addr → Prop) (B : Hp) (Wz : WZ),
      ZSs (L2H.cxH (L2.CX P w) P w K mg base N qual (defScope st) f cdv A outer s H E p) G B (defBody st) (zs Wz))
    (read : ∀ ds Qz Ez, fs ds Qz Ez → zs (fun cls ns es _ => Ez cls ns es) ⟨fun _ => Qz (.d .non), retK Qz, fun _ => False, fun _ => False⟩ (args ds N.length)) :
    FnC P w K mg base (k + 1) f fd ps (toSp K fs) := by
  have hlen : ∀ vs H Q E, toSp K fs vs H Q E → vs.length = ps.length := fun vs H Q E ⟨G, ds, Qz, Ez, _, hd, hf, _⟩ => by rw [hd.length]; exact hl ds Qz Ez hf
  have hps : ps.length ≤ N.length := by have := congrArg List.length S.pre; rw [List.length_take] at this; omega
  refine fn_C F S hlen fun cdv A outer s H vs Q E p hr hsp => ?_
  obtain ⟨G, ds, Qz, Ez, hg, hd, hf, hq, he⟩ := hsp
  obtain ⟨ts, p, r⟩ := body cdv A outer s H E p G H (fun cls ns es _ => Ez cls ns es)
  refine ⟨ts, p, r _ H _ _ _ (args_sm hg hd (by rw [hl ds Qz Ez hf]; exact hps)) (read ds Qz Ez hf) ⟨fun σ' H' ss' k S' q => ?_, fun σ' v H' r ss' k rr q => ?_, fun _ _ _ _ _ q => q.elim, fun _ _ _ _ _ q => q.elim⟩⟩
  · exact hq .non H' (.d .non) (show Same H H' ∧ DR K G H' .non .non from ⟨S'.keep, .non⟩) q
  · cases r with
    | d x => exact hq v H' (.d x) (show Same H H' ∧ DR K G H' v x from ⟨rr.1.keep, rr.2⟩) q
    | new o =>
      obtain ⟨as, S', ro, nd⟩ := rr
      exact hq v H' (.new o) ⟨as, S'.keep, ro, nd, S'.nn⟩ q
    | loc i =>
      obtain ⟨S', ev⟩ := rr
      unfold retK at q
      cases es : ss'[i]? with
      | none => simp only [es] at q
      | some oo =>
        cases oo with
        | none => simp only [es] at q
        | some o =>
          simp only [es] at q
          obtain ⟨v', as, ev', ro, nd, S2⟩ := S'.take es
          rw [ev] at ev'; cases ev'
          exact hq v H' (.new o) ⟨as, S2.keep, ro, nd, S2.nn⟩ q
end

/-! ## a list's display times a number -/
section
variable {K : Frag} {G : Addr → Prop} {H : Hp}
theorem DRs.rep {vs : List V} {ds : List D} (h : DRs K G H vs ds) : ∀ k : Nat, DRs K G H (List.replicate k vs).flatten (List.replicate k ds).flatten
  | 0 => .nil
  | k + 1 => by
    rw [List.replicate_succ, List.replicate_succ, List.flatten_cons, List.flatten_cons]
    exact h.append (DRs.rep h k)
theorem DRs.perm {α : Type} (f : α → D) {ys xs : List V} (p : ys.Perm xs) : ∀ {ps : List α}, DRs K G H xs (ps.map f) → ∃ qs : List α, qs.Perm ps ∧ DRs K G H ys (qs.map f) := by
  induction p with
  | nil => exact fun {ps} h => ⟨ps, .refl _, h⟩
  | cons x p ih =>
    intro ps h
    match ps, h with
    | q :: ps, .cons a b =>
      obtain ⟨qs, h1, h2⟩ := ih b
      exact ⟨q :: qs, h1.cons _, .cons a h2⟩
  | swap x y l =>
    intro ps h
    match ps, h with
    | q :: q2 :: ps, .cons a (.cons b c) => exact ⟨q2 :: q :: ps, .swap _ _ _, .cons b (.cons a c)⟩
  | trans p1 p2 ih1 ih2 =>
    intro ps h
    obtain ⟨qs, h1, h2⟩ := ih2 h
    obtain ⟨rs, h3, h4⟩ := ih1 h2
    exact ⟨rs, h3.trans h1, h4⟩
theorem DRs.pw {α : Type} (f : α → D) {r : V → V → Prop} {u : α → α → Prop} (hr : ∀ x y a b, DR K G H x (f a) → DR K G H y (f b) → r x y → u a b) : ∀ {ys : List V} {ps : List α}, DRs K G H ys (ps.map f) → ys.Pairwise r → ps.Pairwise u
  | _, [], _, _ => .nil
  | _ :: _, a :: ps, .cons h t, p => by
    obtain ⟨p1, p2⟩ := List.pairwise_cons.mp p
    refine List.pairwise_cons.mpr ⟨fun b hb => ?_, DRs.pw f hr t p2⟩
    obtain ⟨i, hi⟩ := List.getElem?_of_mem hb
    obtain ⟨y, hy, ry⟩ := t.get (i := i) (d := f b) (by rw [List.getElem?_map, hi]; rfl)
    exact hr _ _ _ _ h ry (p1 y (List.mem_of_getElem? hy))
end
section
variable {X : Cx} {G : Addr → Prop} {B : Hp} {a b : Expr} {ta tb : ZT} {pos : Pos}
def zRep (ta tb : ZT) : ZT := fun ss Q => ta ss fun ra s1 => match ra with
  | .new (.lst ds) => tb s1 fun rb s2 => match rb with
    | .d (.int k) => Sd (k < 2 ^ 62 ∧ ds.length * k.toNat ≤ sizeLine) ∧ Sd (0 ≤ k) ∧ Q (.new (.lst (List.replicate k.toNat ds).flatten)) s2
    | _ => False
  | _ => False
theorem z_rep (ha : ZE X G B a ta) (hb : ∀ B', ZE X G B' b tb) : ZE X G B (.BinOp a .Mult b pos) (zRep ta tb) := by
  obtain ⟨tea, pa, za⟩ := ha
  obtain ⟨teb, hteb⟩ : ∃ f : Hp → TE, ∀ B', PE X b (f B') ∧ Zr X.K G B' (f B') tb := ⟨fun B' => Classical.choose (hb B'), fun B' => Classical.choose_spec (hb B')⟩
  have pb : PE X b (fun σ H Q => ∃ B', teb B' σ H Q) := ⟨fun pins s σ H Q I ⟨B', h⟩ => (hteb B').1.run pins s σ H Q I h⟩
  refine ⟨_, pe_op op_rep pa pb, fun σ H ss Q R S hw fin => ?_⟩
  refine za σ H ss _ _ S hw fun v H1 ra s1 k1 rr q => ?_
  match ra, rr, q with
  | .new (.lst ds), ⟨as, S1, r, nd⟩, q =>
    cases r with
    | @lst p xs _ h1 h2 =>
      have bn : B p = none := S1.nn p (by simp)
      have S1' := S1.hide h1
      refine ⟨upd B p (.lst xs), (hteb _).2 σ H1 s1 _ _ S1' q fun w H2 rb s2 k2 rr2 q2 => ?_⟩
      match rb, rr2, q2 with
      | .d (.int k), ⟨S2, rk⟩, ⟨sd, s0, q2⟩ =>
        cases rk
        have keep := S2.keep p _ upd_same
        have S3 := (S2.shown bn S1.gb).weak
        have hl : xs.length * k.toNat ≤ sizeLine := by rw [h2.length]; exact sd.h.2
        have h0 := s0.h
        have h62 := sd.h.1
        refine ⟨p, k, xs, rfl, rfl, keep, by omega, by omega, hl, fun p' np => ?_⟩
        have rs := rs_new (X := X) np ((h2.kp k2).rep k.toNat)
        exact fin _ _ _ s2 ((k1.trans k2).trans (Kp.of rs.same)) (rs.rr S3) q2
/-! ## sorted, of pairs of numbers -/
def dTI (ns : List Int) : D := .tup (ns.map .int)
def zSortedPC : ZL := fun ds Q => ∃ (m : Nat) (ps : List (List Int)) (B : Int), ds = [.lst m (ps.map dTI)] ∧ Sd (ps.length < 64) ∧ (∀ p ∈ ps, p.length = 2 ∧ TS.Bd B p) ∧
  ∀ qs : List (List Int), qs.Perm ps → qs.Pairwise (fun n m => TS.code B n ≤ TS.code B m) → Q (.new (.lst (qs.map dTI)))
theorem cz_sortedP : CalZ X (.builtin "sorted") zSortedPC := by
  have hh : CallR X (.builtin "sorted") (fun vs H Q => ∃ B, rSortU X.K 2 B vs H Q) := by
    intro pins s σ H vs us Q I r ⟨B, h⟩
    exact cr_sortT (B := B) (by decide) pins s σ H vs us Q I r h
  refine ⟨_, hh, fun G H vs ds Q R h q fin => ?_⟩
  obtain ⟨m, ps, B, rfl, hl, hp, q⟩ := q
  obtain ⟨v, rfl, r⟩ := h.one
  obtain ⟨a, ws, rfl, hq, rr⟩ := r.sq
  have tup : ∀ {x : V} {p : List Int}, DR X.K G H x (dTI p) → TupI X.K H x p := fun {x p} d => by
    cases d with
    | tup h1 h2 =>
      obtain rfl := h2.ints
      exact ⟨_, rfl, h1⟩
  refine ⟨B, a, ws, rfl, hq, by rw [rr.length, List.length_map]; exact hl.h, fun x hx => ?_, fun ys p' h1 h2 np => ?_⟩
  · obtain ⟨i, hi⟩ := List.getElem?_of_mem hx
    obtain ⟨d, hd, rd⟩ := rr.get' hi
    rw [List.getElem?_map, Option.map_eq_some_iff] at hd
    obtain ⟨p, hpi, rfl⟩ := hd
    obtain ⟨l2, bd⟩ := hp p (List.mem_of_getElem? hpi)
    exact ⟨p, tup rd, l2, bd⟩
  · obtain ⟨qs, e1, e2⟩ := DRs.perm dTI h1 rr
    refine fin _ _ _ (rs_new np e2) (q qs e1 (DRs.pw dTI (fun x y n m hx hy hr => hr n m (tup hx) (tup hy)) e2 h2))
end

/-! ## xs < ys of two lists of whole numbers -/
theorem firstLt_lex : ∀ (ns ms : List Int) (k : Nat), SeqAt.firstLt (fun j => decide (ns.getD (j - k) 0 = ms.getD (j - k) 0)) (fun j => decide (ns.getD (j - k) 0 < ms.getD (j - k) 0)) (decide (ns.length < ms.length)) (List.range' k (min ns.length ms.length)) = HT.lexLt ns ms
  | [], [], k => rfl
  | [], m :: ms, k => by
    show decide (0 < ms.length + 1) = true
    exact decide_eq_true (by omega)
  | n :: ns, [], k => by
    show decide (ns.length + 1 < 0) = false
    exact decide_eq_false (by omega)
  | n :: ns, m :: ms, k => by
    have ih := firstLt_lex ns ms (k + 1)
    rw [HT.lexLt_cons]
    have e : min (n :: ns).length (m :: ms).length = min ns.length ms.length + 1 := by simp only [List.length_cons]; omega
    rw [e, List.range'_succ]
    have e2 : decide ((n :: ns).length < (m :: ms).length) = decide (ns.length < ms.length) := decide_eq_decide.mpr (by simp only [List.length_cons]; omega)
    rw [e2]
    by_cases q : n = m
    · rw [if_pos q, ← ih, SeqAt.firstLt_yes (by simpa using q)]
      have go : ∀ l : List Nat, (∀ j ∈ l, k + 1 ≤ j) → SeqAt.firstLt (fun j => decide ((n :: ns).getD (j - k) 0 = (m :: ms).getD (j - k) 0)) (fun j => decide ((n :: ns).getD (j - k) 0 < (m :: ms).getD (j - k) 0)) (decide (ns.length < ms.length)) l = SeqAt.firstLt (fun j => decide (ns.getD (j - (k + 1)) 0 = ms.getD (j - (k + 1)) 0)) (fun j => decide (ns.getD (j - (k + 1)) 0 < ms.getD (j - (k + 1)) 0)) (decide (ns.length < ms.length)) l := by
        intro l
        induction l with
        | nil => exact fun _ => rfl
        | cons j l ih2 =>
          intro hl
          have hj := hl j List.mem_cons_self
          have ej : j - k = j - (k + 1) + 1 := by omega
          unfold SeqAt.firstLt
          rw [ih2 fun i hi => hl i (List.mem_cons_of_mem _ hi), ej]
          rfl
      exact go _ fun j hj => by
        have := List.mem_range'.mp hj
        omega
    · rw [if_neg q, SeqAt.firstLt_no (by simpa using q)]
      simp
def rLtL (K : Frag) : R2 := fun x y H Q => ∃ (a b : Addr) (ns ms : List Int), x = .ref a ∧ y = .ref b ∧ SqL K H a (ns.map V.int) ∧ SqL K H b (ms.map V.int) ∧ Q (.bl (HT.lexLt ns ms)) H
theorem op_ltL {X : Cx} (hu : X.A.units < cLine) : OpR X (compareOp .Lt) (rLtL X.K) := by
  intro pins s σ H x y v u Q I rx ry h
  obtain ⟨a, b, ns, ms, rfl, rfl, ha, hb, q⟩ := h
  cases rx
  cases ry
  obtain ⟨its, r1, p1, _⟩ := I.list ha
  obtain ⟨its2, r2, p2, _⟩ := I.list hb
  have i1 : PyProof.Rows.IntsAre its ns := Vals.ints r1
  have i2 : PyProof.Rows.IntsAre its2 ms := Vals.ints r2
  have e1 : its.toArray.size = ns.length := by rw [List.size_toArray]; exact i1.length
  have e2 : its2.toArray.size = ms.length := by rw [List.size_toArray]; exact i2.length
  have at1 : ∀ j (h1 : j < its.toArray.size), ∃ t, its.toArray[j] = .int (ns.getD j 0) t := fun j h1 => PyProof.Rows.IntsAre.int_at i1 _ _ (by simp at h1; simp [h1])
  have at2 : ∀ j (h1 : j < its2.toArray.size), ∃ t, its2.toArray[j] = .int (ms.getD j 0) t := fun j h1 => PyProof.Rows.IntsAre.int_at i2 _ _ (by simp at h1; simp [h1])
  have R := SeqAt.RcLt.lists (A := X.A) (s := s) (e := fun j => decide (ns.getD j 0 = ms.getD j 0)) (r := fun j => decide (ns.getD j 0 < ms.getD j 0)) p1.isList p2.isList hu (fun j h1 h2 => by
    obtain ⟨t, et⟩ := at1 j h1
    obtain ⟨t', et'⟩ := at2 j h2
    rw [et, et']
    have z : (ns.getD j 0 == ms.getD j 0) = decide (ns.getD j 0 = ms.getD j 0) := by
      by_cases q : ns.getD j 0 = ms.getD j 0
      · rw [decide_eq_true q]; exact beq_iff_eq.mpr q
      · rw [decide_eq_false q]; exact beq_eq_false_iff_ne.mpr q
    rw [← z]
    exact SeqAt.EqAt.int_int _ _ _ _) (fun j h1 h2 _ => by
    obtain ⟨t, et⟩ := at1 j h1
    obtain ⟨t', et'⟩ := at2 j h2
    rw [et, et']
    exact Ob.RcOp.lt_int _ _ _ _)
  rw [e1, e2] at R
  have fl := firstLt_lex ns ms 0
  simp only [Nat.sub_zero] at fl
  rw [← List.range_eq_range'] at fl
  rw [fl] at R
  have z : wpAny (model X.prog X.w) X.A (compareOp .Lt (.ref a) (.ref b)) (EP X pins σ Q) X.xe s := R X.prog X.w X.xe (EP X pins σ Q) ⟨.bl _, H, I, rfl, q⟩
  exact z
section
variable {X : Cx} {G : Addr → Prop} {B : Hp} {Wz : WZ} {k j : Nat} {e o a b c : Expr} {es : List Expr} {t to : ZT} {ts : ZTA} {pos apos cpos p : Pos}
/-- < of whole numbers, of tuples or of lists of them -/
def zLtX : Z2 := fun x y Q => match x, y with
  | .int i, .int j => Q (.d (.bl (decide (i < j))))
  | .tup xs, .tup ys => ∃ ns ms : List Int, (xs = ns.map .int ∧ ys = ms.map .int) ∧ Q (.d (.bl (HT.lexLt ns ms)))
  | .lst _ xs, .lst _ ys => ∃ ns ms : List Int, (xs = ns.map .int ∧ ys = ms.map .int) ∧ Q (.d (.bl (HT.lexLt ns ms)))
  | _, _ => False
theorem oz_ltX (hu : X.A.units + 64 < cLine) : OpZ X (compareOp .Lt) zLtX := by
  have hu' := Nat.lt_of_le_of_lt (Nat.le_add_right X.A.units 64) hu
  refine ⟨_, OpR.or op_lt (OpR.or (op_ltT hu') (op_ltL hu')), fun G H x y dx dy Q R hx hy q fin => ?_⟩
  unfold zLtX at q
  cases dx with
  | int i =>
    cases dy with
    | int j =>
      obtain rfl := hx.i; obtain rfl := hy.i
      exact .inl ⟨i, j, rfl, rfl, fin _ H _ (rs_d (.bl _)) q⟩
    | _ => exact q.elim
  | tup xs =>
    cases dy with
    | tup ys =>
      obtain ⟨ns, ms, ⟨rfl, rfl⟩, q⟩ := q
      obtain ⟨a1, ws1, rfl, h1, h2⟩ := hx.tq
      obtain ⟨a2, ws2, rfl, g1, g2⟩ := hy.tq
      obtain rfl := h2.ints
      obtain rfl := g2.ints
      exact .inr (.inl ⟨a1, a2, ns, ms, rfl, rfl, h1, g1, fin _ H _ (rs_d (.bl _)) q⟩)
    | _ => exact q.elim
  | lst m xs =>
    cases dy with
    | lst m2 ys =>
      obtain ⟨ns, ms, ⟨rfl, rfl⟩, q⟩ := q
      obtain ⟨a1, ws1, rfl, h1, h2⟩ := hx.sq
      obtain ⟨a2, ws2, rfl, g1, g2⟩ := hy.sq
      obtain rfl := h2.ints
      obtain rfl := g2.ints
      exact .inr (.inr ⟨a1, a2, ns, ms, rfl, rfl, h1, g1, fin _ H _ (rs_d (.bl _)) q⟩)
    | _ => exact q.elim
  | _ => cases dy <;> exact q.elim
end

theorem bT {p : Prop} [Decidable p] (h : decide p = true) : p := of_decide_eq_true h
theorem bF {p : Prop} [Decidable p] (h : decide p = false) : ¬ p := of_decide_eq_false h
theorem nbT {p : Prop} [Decidable p] (h : (!decide p) = true) : ¬ p := fun q => by rw [decide_eq_true q] at h; cases h
theorem nbF {p : Prop} [Decidable p] (h : (!decide p) = false) : p := by
  by_cases q : p
  · exact q
  · rw [decide_eq_false q] at h; cases h
theorem finT {Q : RV → Prop} {b : Bool} (q : Q (.d (.bl true))) (h : b = true) : Q (.d (.bl b)) := by subst h; exact q
theorem one_len (a : Nat) : (⟨#[a]⟩ : Str).length = 1 := rfl
theorem app11_len (a b : Nat) : ((⟨#[a]⟩ : Str) ++ ⟨#[b]⟩).length = 2 := rfl
theorem two_len (a b : Nat) : (⟨#[a, b]⟩ : Str).length = 2 := rfl
theorem eqStr (s : Str) : D.eq (.str s) (.str s) = true := decide_eq_true rfl
theorem eqInt (s : Int) : D.eq (.int s) (.int s) = true := decide_eq_true rfl
theorem neStr (s : Str) : (!D.eq (.str s) (.str s)) = false := congrArg not (eqStr s)
theorem neInt (s : Int) : (!D.eq (.int s) (.int s)) = false := congrArg not (eqInt s)
local macro_rules | `(tactic| walk_at "zside") => `(tactic| first | omega | decide | (exact (rfl : (_ : Bool) = true)) | (exact (rfl : (_ : Bool) = false)) | (exact (rfl : (_ : Option _) = some _)) | (simp [sizeLine_eq]; done) | (simp only [List.length_map, sizeLine_eq]; omega) | assumption | (exact mulB (by decide) (by decide)) | (exact mulR (by decide)) | (simp only [app11_len, one_len, two_len, sizeLine_eq]; omega) | (exact mulB (by omega) (by omega)) | (exact divS (by decide) (by decide)) | exact ⟨by decide, by decide +kernel⟩ | (refine ⟨?_, ?_, ?_⟩ <;> first | omega | decide))
local macro_rules | `(tactic| walk_at "z1") => `(tactic| ((conv => whnf); first
  | ((with_reducible refine And.intro (Sd.mk ?zs) ?_); (case zs => walk_at "zside"))
  | (with_reducible refine Br.T ?_)
  | (with_reducible refine Br.F ?_)
  | (with_reducible refine Br.nT ?_)
  | (with_reducible refine Br.nF ?_)
  | ((with_reducible refine Br.lT ?hb ?_); (case hb => exact (rfl : (_ : Bool) = true)))
  | ((with_reducible refine Br.lF ?hb ?_); (case hb => exact (rfl : (_ : Bool) = false)))
  | ((with_reducible refine Br.lT ?hb ?_); (case hb => with_reducible first | assumption | exact eqStr _ | exact eqInt _))
  | ((with_reducible refine Br.lF ?hb ?_); (case hb => with_reducible first | assumption | exact neStr _ | exact neInt _))
  | ((with_reducible refine' Exists.intro _ (And.intro ?hx ?_)); (case hx => ((with_reducible show atI _ _ = some _); exact rfl)))))
local macro_rules | `(tactic| walk_at "zz") => `(tactic| ((repeat (walk_at "z1")); (try (conv => whnf))))
theorem cutS_len (s : Str) (lo hi : Option Int) : (cutS s lo hi).length ≤ s.length := by
  unfold cutS
  show ((List.drop _ _).take _).toArray.size ≤ s.cps.size
  rw [List.size_toArray, List.length_take, List.length_drop, Array.length_toList]; omega
theorem app_len (a b : Str) : (a ++ b).length = a.length + b.length := by
  show (a.cps ++ b.cps).size = _
  rw [Array.size_append]; rfl
theorem at_mod {α : Type} (xs : List α) (r n : Int) (hn : n = xs.length) (h : 0 < xs.length) : ∃ x, x ∈ xs ∧ atI xs (r % n) = some x := by
  subst hn
  obtain ⟨q, e⟩ := atI_in (xs := xs) (Int.emod_nonneg r (by omega)) (Int.emod_lt_of_pos r (by omega))
  exact ⟨_, List.getElem_mem q, e⟩
/-! ### bits: hands as sets of bits -/
/-- the cards of a hand below n -/
def cardsB (h n : Nat) : List Nat := (List.range n).filter fun i => h.testBit i
def cards (h : Nat) : List Nat := cardsB h 256
def dN (n : Nat) : D := .int (n : Int)
def dNs (l : List Nat) : List D := l.map dN
theorem dNs_len (l : List Nat) : (dNs l).length = l.length := by simp [dNs]
theorem dNs_ints (l : List Nat) : dNs l = (l.map Int.ofNat).map D.int := by simp [dNs, dN, List.map_map, Function.comp_def]
theorem cardsB_succ (h n : Nat) : cardsB h (n + 1) = cardsB h n ++ (if h.testBit n then [n] else []) := by
  unfold cardsB
  rw [List.range_succ, List.filter_append]
  congr 1
  by_cases e : h.testBit n <;> simp [List.filter, e]
theorem cardsB_len (h n : Nat) : (cardsB h n).length ≤ n := by
  unfold cardsB
  exact Nat.le_trans (List.length_filter_le _ _) (by simp)
theorem cardsB_zero {h n : Nat} (e : h < 2 ^ n) (k : Nat) : cardsB h (n + k) = cardsB h n := by
  induction k with
  | zero => rfl
  | succ k ih =>
    rw [← Nat.add_assoc, cardsB_succ, ih, Nat.testBit_lt_two_pow (Nat.lt_of_lt_of_le e (Nat.pow_le_pow_right (by decide) (by omega)))]
    simp
theorem cards_below {h n : Nat} (hn : n ≤ 256) (e : h < 2 ^ n) : cards h = cardsB h n := by
  have := cardsB_zero e (256 - n)
  rw [show n + (256 - n) = 256 by omega] at this
  exact this
theorem div_zero_lt {h n : Nat} (e : h / 2 ^ n = 0) : h < 2 ^ n := by
  rcases Nat.lt_or_ge h (2 ^ n) with q | q
  · exact q
  · have := Nat.div_pos q (Nat.two_pow_pos n); omega
theorem cards_len (h : Nat) : (cards h).length ≤ 256 := cardsB_len h 256
theorem mem_cards {h c : Nat} : c ∈ cards h ↔ c < 256 ∧ h.testBit c = true := by simp [cards, cardsB]
theorem bitAnd_one (n : Nat) : Builtin.bitAnd (n : Int) 1 = ((n % 2 : Nat) : Int) := by
  show ((n &&& 1 : Nat) : Int) = _
  rw [Nat.and_one_is_mod]
theorem bitAnd_nat (n m : Nat) : Builtin.bitAnd (n : Int) (m : Int) = ((n &&& m : Nat) : Int) := rfl
theorem bitOr_nat (n m : Nat) : Builtin.bitOr (n : Int) (m : Int) = ((n ||| m : Nat) : Int) := by
  have e : ∀ x : Nat, ¬ (0 ≤ Builtin.bitNot (x : Int)) := fun x q => by unfold Builtin.bitNot at q; omega
  have e2 : ∀ x : Int, Builtin.bitNot (Builtin.bitNot x) = x := fun x => by unfold Builtin.bitNot; omega
  unfold Builtin.bitOr Builtin.bitAnd
  rw [decide_eq_false (e n), decide_eq_false (e m)]
  simp only [e2, Int.toNat_natCast]
theorem div_two_cast (n : Nat) : ((n : Nat) : Int) / 2 ^ (1 : Int).toNat = ((n / 2 : Nat) : Int) := by
  show (n : Int) / (2 ^ 1) = _
  omega
theorem shl_one (c : Nat) : (1 : Int) * 2 ^ (c : Int).toNat = ((2 ^ c : Nat) : Int) := by
  rw [Int.one_mul, Int.toNat_natCast]
  exact (Int.natCast_pow 2 c).symm
/-- a list's hand -/
def handOf (l : List Nat) : Nat := l.foldl (fun h c => h ||| 2 ^ c) 0
/-! how many -/
theorem cardsB_rec (h n : Nat) : (cardsB h (n + 1)).length = h % 2 + (cardsB (h / 2) n).length := by
  unfold cardsB
  rw [List.range_succ_eq_map, List.filter_cons, List.filter_map]
  have e : ((fun i => h.testBit i) ∘ Nat.succ) = fun i => (h / 2).testBit i := by
    funext i; simp [Function.comp, Nat.testBit_succ]
  have e0 : h.testBit 0 = decide (h % 2 = 1) := by simp [Nat.testBit_zero]
  rw [e0]
  rcases Nat.mod_two_eq_zero_or_one h with q | q <;> simp [q, e] <;> omega
theorem drop_one : ∀ (n h : Nat), 0 < h → h < 2 ^ n → (cardsB (h &&& (h - 1)) n).length + 1 = (cardsB h n).length
  | 0, h, h0, h1 => by simp at h1; omega
  | n + 1, h, h0, h1 => by
    rw [cardsB_rec, cardsB_rec, Nat.and_div_two]
    have em : (h &&& (h - 1)) % 2 = 0 := by
      rcases Nat.mod_two_eq_zero_or_one h with q | q
      · have := Nat.and_mod_two_pow (a := h) (b := h - 1) (n := 1)
        simp [q] at this; exact this
      · have := Nat.and_mod_two_pow (a := h) (b := h - 1) (n := 1)
        have q2 : (h - 1) % 2 = 0 := by omega
        simp [q2] at this; exact this
    rw [em]
    rcases Nat.mod_two_eq_zero_or_one h with q | q
    · have e : (h - 1) / 2 = h / 2 - 1 := by omega
      rw [e, q]
      have := drop_one n (h / 2) (by omega) (by rw [Nat.pow_succ] at h1; omega)
      omega
    · have e : (h - 1) / 2 = h / 2 := by omega
      rw [e, q, Nat.and_self]; omega
def sp_many : FS := fun ds Q _ => ∃ h : Nat, ds = [.int h] ∧ h < 2 ^ 256 ∧ Q (.d (.int ((cards h).length : Nat)))
def r_many_b1 (Wz : WZ) : ZTS :=
  (zSeq (zSet 0 (zBin zBAndC (zVar 0) (zBin zSubC (zVar 0) (zC (.int 1)))))
  (zSet 1 (zBin zAddC (zVar 1) (zC (.int 1)))))
def r_many (Wz : WZ) : ZTS :=
  (zSeq (zSet 1 (zC (.int 0)))
  (zSeq (zWhile (zT (zBin zGtX (zVar 0) (zC (.int 0)))) (r_many_b1 Wz))
  (zRet (zVar 1))))
theorem read_many (ds : List D) (Q : RV → Prop) (E : EZ) (hs : sp_many ds Q E) : r_many (fun cls ns es _ => E cls ns es) ⟨fun _ => Q (.d .non), retK Q, fun _ => False, fun _ => False⟩ (args ds 2) := by
  obtain ⟨h, rfl, hb, q⟩ := hs
  walk_at "zz"
  refine while_W (fun m ss => ∃ g f : Nat, m = (cards g).length ∧ g < 2 ^ 256 ∧ f + (cards g).length = (cards h).length ∧ ss = [some (.pure (.int (g : Int))), some (.pure (.int (f : Int)))]) (cards h).length ⟨h, 0, rfl, hb, by omega, by simp [args]⟩ ?_
  intro m ss hW
  obtain ⟨g, f, rfl, hg, hf, rfl⟩ := hW
  walk_at "zz"
  refine ⟨fun hp => ?_, fun hp => ?_⟩
  · have hp : 0 < g := Int.ofNat_lt.mp (of_decide_eq_true hp)
    walk_at "zz"
    have dr := drop_one 256 g hp hg
    have e1 : ((g : Int) - 1) = ((g - 1 : Nat) : Int) := by omega
    refine ⟨(cards (g &&& (g - 1))).length, by unfold cards; omega, g &&& (g - 1), f + 1, rfl, Nat.lt_of_le_of_lt Nat.and_le_left hg, by unfold cards at *; omega, ?_⟩
    rw [← bitAnd_nat, ← e1]; rfl
  · have hp : ¬ 0 < g := fun e => by
      have := of_decide_eq_false (p := (0 : Int) < (g : Int)) hp
      exact this (Int.ofNat_lt.mpr e)
    have e0 : g = 0 := by omega
    subst e0
    have e1 : (cards 0).length = 0 := by
      unfold cards cardsB
      simp
    rw [e1] at hf
    have : f = (cards h).length := by omega
    rw [← this] at q
    exact q
theorem dNs_map (l : List Nat) : dNs l = (l.map fun n : Nat => (n : Int)).map D.int := by simp [dNs, dN, Function.comp_def]
theorem eqs_dNs (l : List Nat) : D.eqs (dNs l) (dNs l) = true := by rw [dNs_map, eqs_ints]; simp
theorem pls_dNs (k : Nat) (l : List Nat) : D.pls k (dNs l) = true := by rw [dNs_map]; exact pls_ints k _
theorem handOf_bit (i : Nat) : ∀ (l : List Nat) (a : Nat), (l.foldl (fun h c => h ||| 2 ^ c) a).testBit i = (a.testBit i || decide (i ∈ l))
  | [], a => by simp
  | c :: l, a => by
    rw [List.foldl_cons, handOf_bit i l, Nat.testBit_or, Nat.testBit_two_pow]
    by_cases e : c = i
    · subst e; simp
    · simp [e, Ne.symm e]
/-- a list with the cards of h, each at least once -/
theorem handOf_eq {l : List Nat} {h : Nat} (e : ∀ i, i ∈ l ↔ h.testBit i = true) : handOf l = h := by
  apply Nat.eq_of_testBit_eq
  intro i
  unfold handOf
  rw [handOf_bit i l 0]
  have := e i
  cases q : h.testBit i <;> simp [q] at this ⊢ <;> exact this
theorem mem_cardsB {h n c : Nat} : c ∈ cardsB h n ↔ c < n ∧ h.testBit c = true := by simp [cardsB]
/-! one suit's part -/
def suitPart (h s : Nat) : Nat := h &&& (255 * 2 ^ (8 * s))
theorem suitPart_bit (h s i : Nat) : (suitPart h s).testBit i = (h.testBit i && decide (i / 8 = s)) := by
  unfold suitPart
  rw [Nat.testBit_and]
  congr 1
  rw [← Nat.shiftLeft_eq, Nat.testBit_shiftLeft]
  have e : (255 : Nat) = 2 ^ 8 - 1 := rfl
  rw [e, Nat.testBit_two_pow_sub_one]
  by_cases q : i / 8 = s
  · have q1 : 8 * s ≤ i := by omega
    have q2 : i - 8 * s < 8 := by omega
    simp [q1, q2, q]
  · rw [decide_eq_false q]
    by_cases q1 : 8 * s ≤ i
    · have q2 : ¬ i - 8 * s < 8 := by omega
      simp [q2]
    · simp [q1]
theorem suitPart_le (h s : Nat) : suitPart h s ≤ h := Nat.and_le_left
theorem suitPart_cards (h s n : Nat) : cardsB (suitPart h s) n = (cardsB h n).filter fun c => decide (c / 8 = s) := by
  unfold cardsB
  rw [List.filter_filter]
  congr 1
  funext i
  rw [suitPart_bit, Bool.and_comm]
theorem suitPart_div (h s : Nat) : suitPart h s = h / 2 ^ (8 * s) % 2 ^ 8 * 2 ^ (8 * s) := by
  apply Nat.eq_of_testBit_eq
  intro i
  rw [suitPart_bit, ← Nat.shiftLeft_eq, Nat.testBit_shiftLeft, Nat.testBit_mod_two_pow, Nat.testBit_div_two_pow]
  by_cases q : i / 8 = s
  · have q1 : 8 * s ≤ i := by omega
    have q2 : i - 8 * s < 8 := by omega
    have q3 : i - 8 * s + 8 * s = i := by omega
    simp [q1, q2, q, q3]
  · rw [decide_eq_false q]
    by_cases q1 : 8 * s ≤ i
    · have q2 : ¬ i - 8 * s < 8 := by omega
      simp [q2]
    · simp [q1]
theorem suitPart_sum {h : Nat} (hh : h < 2 ^ 32) : suitPart h 0 + suitPart h 1 + suitPart h 2 + suitPart h 3 = h := by
  rw [suitPart_div, suitPart_div, suitPart_div, suitPart_div]
  simp only [Nat.mul_zero, Nat.mul_one, Nat.pow_zero, Nat.div_one, Nat.reduceMul, Nat.reducePow]
  omega
theorem suit_count : ∀ l : List Nat, (∀ c ∈ l, c < 32) → (l.filter fun c => decide (c / 8 = 0)).length + (l.filter fun c => decide (c / 8 = 1)).length + (l.filter fun c => decide (c / 8 = 2)).length + (l.filter fun c => decide (c / 8 = 3)).length = l.length
  | [], _ => rfl
  | c :: l, h => by
    have ih := suit_count l fun x hx => h x (List.mem_cons_of_mem _ hx)
    have hc := h c List.mem_cons_self
    have f : ∀ s, ((c :: l).filter fun c => decide (c / 8 = s)).length = (if c / 8 = s then 1 else 0) + (l.filter fun c => decide (c / 8 = s)).length := fun s => by
      rw [List.filter_cons]
      by_cases e : c / 8 = s
      · rw [if_pos (decide_eq_true e), if_pos e, List.length_cons]; omega
      · rw [if_neg (by rw [decide_eq_false e]; decide), if_neg e]; omega
    rw [f, f, f, f, List.length_cons, ← ih]
    have : c / 8 = 0 ∨ c / 8 = 1 ∨ c / 8 = 2 ∨ c / 8 = 3 := by omega
    generalize (l.filter fun c => decide (c / 8 = 0)).length = x0
    generalize (l.filter fun c => decide (c / 8 = 1)).length = x1
    generalize (l.filter fun c => decide (c / 8 = 2)).length = x2
    generalize (l.filter fun c => decide (c / 8 = 3)).length = x3
    rcases this with e | e | e | e <;> rw [e] <;> simp only [reduceIte, Nat.reduceEqDiff] <;> omega
/-! ### shares: how many there are, and in which order (plain) -/
def ch : Nat → Nat → Nat
  | _, 0 => 1
  | 0, _ + 1 => 0
  | n + 1, k + 1 => ch n k + ch n (k + 1)
theorem ch_zero (n : Nat) : ch n 0 = 1 := by cases n <;> rfl
theorem ch_abs : ∀ n k : Nat, (k + 1) * ch (n + 1) (k + 1) = (n + 1) * ch n k
  | 0, 0 => rfl
  | 0, k + 1 => by simp [ch]
  | n + 1, 0 => by
    have h := ch_abs n 0
    rw [ch_zero] at h
    show (0 + 1) * (ch (n + 1) 0 + ch (n + 1) (0 + 1)) = _
    rw [ch_zero]; omega
  | n + 1, k + 1 => by
    have h1 := ch_abs n k
    have h2 := ch_abs n (k + 1)
    have e1 : ch (n + 1 + 1) (k + 1 + 1) = ch (n + 1) (k + 1) + ch (n + 1) (k + 1 + 1) := rfl
    have e2 : ch (n + 1) (k + 1) = ch n k + ch n (k + 1) := rfl
    rw [e1, Nat.mul_add, h2, Nat.succ_mul (k + 1), h1, Nat.succ_mul (n + 1), e2, Nat.mul_add]
    omega
theorem ch_le : ∀ n k : Nat, ch n k ≤ 2 ^ n
  | 0, 0 => by decide
  | 0, k + 1 => by simp [ch]
  | n + 1, 0 => by rw [ch_zero]; exact Nat.one_le_two_pow
  | n + 1, k + 1 => by
    have h1 := ch_le n k
    have h2 := ch_le n (k + 1)
    show ch n k + ch n (k + 1) ≤ _
    rw [Nat.pow_succ]; omega
theorem ch_over : ∀ n k : Nat, n < k → ch n k = 0
  | 0, k + 1, _ => rfl
  | n + 1, k + 1, h => by
    show ch n k + ch n (k + 1) = 0
    rw [ch_over n k (by omega), ch_over n (k + 1) (by omega)]
theorem ch_self : ∀ n : Nat, ch n n = 1
  | 0 => rfl
  | n + 1 => by
    show ch n n + ch n (n + 1) = 1
    rw [ch_self n, ch_over n (n + 1) (by omega)]
theorem ch_pos : ∀ n k : Nat, k ≤ n → 0 < ch n k
  | n, 0, _ => by rw [ch_zero]; decide
  | n + 1, k + 1, h => by
    have := ch_pos n k (by omega)
    show 0 < ch n k + ch n (k + 1)
    omega
/-- the step of the loop divides even -/
theorem ch_step (f t k : Nat) : f * ch (t + k) k * (t + k + 1) / (k + 1) = f * ch (t + (k + 1)) (k + 1) := by
  have h := ch_abs (t + k) k
  have e : f * ch (t + k) k * (t + k + 1) = f * ch (t + k + 1) (k + 1) * (k + 1) := by
    rw [Nat.mul_assoc, Nat.mul_comm (ch (t + k) k), ← h, Nat.mul_comm (k + 1), Nat.mul_assoc]
  rw [e, Nat.mul_div_cancel _ (by omega)]; rfl
def Wn : Nat → List Nat → Nat
  | _, [] => 1
  | t, s :: ss => ch (t + s) s * Wn (t + s) ss
theorem Wn_pos : ∀ (ss : List Nat) (t : Nat), 0 < Wn t ss
  | [], _ => Nat.one_pos
  | s :: ss, t => Nat.mul_pos (ch_pos _ _ (by omega)) (Wn_pos ss _)
theorem Wn_zero : ∀ (ss : List Nat) (t : Nat), ss.sum = 0 → Wn t ss = 1
  | [], _, _ => rfl
  | s :: ss, t, h => by
    rw [List.sum_cons] at h
    have : s = 0 := by omega
    subst this
    show ch (t + 0) 0 * Wn (t + 0) ss = 1
    rw [ch_zero, Wn_zero ss _ (by omega)]
theorem Wn_le : ∀ (ss : List Nat) (t : Nat), Wn t ss ≤ 2 ^ ((t + ss.sum) * ss.length)
  | [], _ => by simp [Wn]
  | s :: ss, t => by
    have h := Wn_le ss (t + s)
    have h2 := ch_le (t + s) s
    show ch (t + s) s * Wn (t + s) ss ≤ _
    refine Nat.le_trans (Nat.mul_le_mul h2 h) ?_
    rw [← Nat.pow_add, List.sum_cons, List.length_cons]
    refine Nat.pow_le_pow_right (by decide) ?_
    have e : t + (s + ss.sum) = t + s + ss.sum := by omega
    rw [Nat.mul_succ, e]
    generalize (t + s + ss.sum) * ss.length = z
    omega
def Wy (ss : List Nat) : Nat := Wn 0 ss
def dec (ss : List Nat) (i : Nat) : List Nat := ss.set i (ss.getD i 0 - 1)
theorem dec_len (ss : List Nat) (i : Nat) : (dec ss i).length = ss.length := by simp [dec]
def Wt (t : Nat) (ss : List Nat) (i : Nat) : Nat := if ss.getD i 0 = 0 then 0 else Wn t (dec ss i)
theorem Wt_zero (t s : Nat) (ss : List Nat) : Wt t (s :: ss) 0 = if s = 0 then 0 else Wn t ((s - 1) :: ss) := rfl
theorem Wt_succ (t s : Nat) (ss : List Nat) (i : Nat) : Wt t (s :: ss) (i + 1) = ch (t + s) s * Wt (t + s) ss i := by
  show (if ss.getD i 0 = 0 then 0 else ch (t + s) s * Wn (t + s) (dec ss i)) = ch (t + s) s * (if ss.getD i 0 = 0 then 0 else Wn (t + s) (dec ss i))
  by_cases e : ss.getD i 0 = 0
  · rw [if_pos e, if_pos e, Nat.mul_zero]
  · rw [if_neg e, if_neg e]
def off (t : Nat) (ss : List Nat) (n : Nat) : Nat := ((List.range n).map (Wt t ss)).sum
theorem off_succ (t : Nat) (ss : List Nat) (n : Nat) : off t ss (n + 1) = off t ss n + Wt t ss n := by
  unfold off
  rw [List.range_succ, List.map_append, List.sum_append, List.map_singleton, List.sum_singleton]
theorem off_mono (t : Nat) (ss : List Nat) {m n : Nat} (h : m ≤ n) : off t ss m ≤ off t ss n := by
  induction n with
  | zero => rw [show m = 0 by omega]; exact Nat.le_refl _
  | succ n ih =>
    rcases Nat.lt_or_ge m (n + 1) with q | q
    · rw [off_succ]; exact Nat.le_trans (ih (by omega)) (Nat.le_add_right _ _)
    · rw [show m = n + 1 by omega]; exact Nat.le_refl _
theorem off_shift (t s : Nat) (ss : List Nat) : ∀ n : Nat, off t (s :: ss) (n + 1) = Wt t (s :: ss) 0 + ch (t + s) s * off (t + s) ss n
  | 0 => by rw [off_succ]; simp [off]
  | n + 1 => by
    rw [off_succ, off_shift t s ss n, off_succ, Wt_succ, Nat.mul_add]; omega
theorem Wrec : ∀ (ss : List Nat) (t : Nat), 0 < t + ss.sum → Wn t ss = (if t = 0 then 0 else Wn (t - 1) ss) + off t ss ss.length
  | [], t, h => by
    have h : 0 < t + 0 := h
    rw [if_neg (by omega)]; simp [Wn, off]
  | s :: ss, t, h => by
    rw [List.sum_cons] at h
    rw [List.length_cons, off_shift, Wt_zero]
    show ch (t + s) s * Wn (t + s) ss = _
    match t, s with
    | 0, 0 =>
      have ih := Wrec ss 0 (by omega)
      rw [if_pos rfl] at ih
      rw [if_pos rfl]
      show 1 * Wn 0 ss = 0 + (0 + 1 * off 0 ss ss.length)
      omega
    | t + 1, 0 =>
      have ih := Wrec ss (t + 1) (by omega)
      rw [if_neg (by omega)] at ih
      rw [if_neg (by omega), if_pos rfl]
      show ch (t + 1) 0 * Wn (t + 1) ss = ch (t + 1 - 1 + 0) 0 * Wn (t + 1 - 1 + 0) ss + (0 + ch (t + 1) 0 * off (t + 1) ss ss.length)
      rw [ch_zero, ch_zero, ih]; simp
    | 0, s + 1 =>
      have ih := Wrec ss (s + 1) (by omega)
      rw [if_neg (by omega)] at ih
      rw [if_pos rfl, if_neg (by omega)]
      show ch (0 + (s + 1)) (s + 1) * Wn (0 + (s + 1)) ss = 0 + (ch (0 + (s + 1 - 1)) (s + 1 - 1) * Wn (0 + (s + 1 - 1)) ss + ch (0 + (s + 1)) (s + 1) * off (0 + (s + 1)) ss ss.length)
      rw [Nat.zero_add, Nat.zero_add, Nat.zero_add, ch_self, ch_self, ih]; simp
    | t + 1, s + 1 =>
      have ih := Wrec ss (t + 1 + (s + 1)) (by omega)
      rw [if_neg (by omega)] at ih
      rw [if_neg (by omega), if_neg (by omega), ih, Nat.mul_add]
      show ch (t + 1 + (s + 1)) (s + 1) * Wn (t + 1 + (s + 1) - 1) ss + _ = ch (t + 1 - 1 + (s + 1)) (s + 1) * Wn (t + 1 - 1 + (s + 1)) ss + (ch (t + 1 + (s + 1 - 1)) (s + 1 - 1) * Wn (t + 1 + (s + 1 - 1)) ss + _)
      have a1 : t + 1 + (s + 1) - 1 = t + s + 1 := by omega
      have a2 : t + 1 - 1 + (s + 1) = t + s + 1 := by omega
      have a3 : t + 1 + (s + 1 - 1) = t + s + 1 := by omega
      have a4 : ch (t + 1 + (s + 1)) (s + 1) = ch (t + s + 1) s + ch (t + s + 1) (s + 1) := by
        rw [show t + 1 + (s + 1) = t + s + 1 + 1 by omega]; rfl
      rw [a1, a2, a3, Nat.add_sub_cancel, a4, Nat.add_mul, ← Nat.add_assoc, Nat.add_comm (ch (t + s + 1) s * Wn (t + s + 1) ss), Nat.add_assoc, Nat.add_assoc]
theorem Wy_rec {ss : List Nat} (h : 0 < ss.sum) : Wy ss = off 0 ss ss.length := by
  have := Wrec ss 0 (by omega)
  rw [if_pos rfl, Nat.zero_add] at this
  exact this
theorem dec_sum : ∀ (ss : List Nat) (i : Nat), ss.getD i 0 ≠ 0 → (dec ss i).sum + 1 = ss.sum
  | [], i, h => by simp at h
  | s :: ss, 0, h => by
    have h : s ≠ 0 := h
    show ((s - 1) :: ss).sum + 1 = _
    rw [List.sum_cons, List.sum_cons]; omega
  | s :: ss, i + 1, h => by
    have := dec_sum ss i h
    show (s :: dec ss i).sum + 1 = _
    rw [List.sum_cons, List.sum_cons]; omega
theorem dec_get (ss : List Nat) (i j : Nat) (hi : i < ss.length) : (dec ss i).getD j 0 = if j = i then ss.getD i 0 - 1 else ss.getD j 0 := by
  unfold dec
  simp only [List.getD_eq_getElem?_getD]
  by_cases e : i = j
  · subst e
    rw [List.getElem?_set_self hi, if_pos rfl]; rfl
  · rw [List.getElem?_set_ne e, if_neg (fun q => e q.symm)]
/-! owners -/
/-- os is a list of owners with the sizes ss -/
def Vd : List Nat → List Nat → Prop
  | ss, [] => ss.sum = 0
  | ss, o :: os => o < ss.length ∧ ss.getD o 0 ≠ 0 ∧ Vd (dec ss o) os
def rk : List Nat → List Nat → Nat
  | _, [] => 0
  | ss, o :: os => off 0 ss o + rk (dec ss o) os
theorem Vd_sum : ∀ {os ss : List Nat}, Vd ss os → ss.sum = os.length
  | [], ss, h => h
  | o :: os, ss, ⟨_, h2, h3⟩ => by rw [← dec_sum ss o h2, Vd_sum h3]; rfl
theorem Vd_mem : ∀ {os ss : List Nat}, Vd ss os → ∀ o ∈ os, o < ss.length
  | o :: os, ss, ⟨h1, h2, h3⟩, x, hx => by
    rcases List.mem_cons.mp hx with e | hx
    · rw [e]; exact h1
    · have := Vd_mem h3 x hx
      rw [dec_len] at this; exact this
theorem sum_zero : ∀ {ss : List Nat}, ss.sum = 0 → ∀ j, ss.getD j 0 = 0
  | [], _, j => by simp
  | s :: ss, h, 0 => by rw [List.sum_cons] at h; show s = 0; omega
  | s :: ss, h, j + 1 => by rw [List.sum_cons] at h; exact sum_zero (ss := ss) (by omega) j
theorem Vd_count : ∀ {os ss : List Nat}, Vd ss os → ∀ j, ss.getD j 0 = os.count j
  | [], ss, h, j => by rw [List.count_nil]; exact sum_zero h j
  | o :: os, ss, ⟨h1, h2, h3⟩, j => by
    have := Vd_count h3 j
    rw [dec_get ss o j h1] at this
    rw [List.count_cons]
    by_cases e : j = o
    · subst e
      rw [if_pos rfl] at this
      rw [if_pos (by simp)]; omega
    · rw [if_neg e] at this
      rw [if_neg (by simp; exact fun q => e q.symm)]; omega
theorem rk_lt : ∀ {os ss : List Nat}, Vd ss os → rk ss os < Wy ss
  | [], ss, h => Wn_pos _ _
  | o :: os, ss, ⟨h1, h2, h3⟩ => by
    have ih := rk_lt h3
    have e := dec_sum ss o h2
    rw [Wy_rec (ss := ss) (by omega)]
    have m := off_mono 0 ss (m := o + 1) (n := ss.length) h1
    rw [off_succ] at m
    have w : Wt 0 ss o = Wy (dec ss o) := by unfold Wt Wy; rw [if_neg h2]
    show off 0 ss o + rk (dec ss o) os < _
    omega
/-- all of them, in order -/
def Ls : Nat → List Nat → List (List Nat)
  | 0, _ => [[]]
  | n + 1, ss => (List.range ss.length).flatMap fun i => if ss.getD i 0 = 0 then [] else (Ls n (dec ss i)).map (i :: ·)
theorem Ls_len : ∀ (n : Nat) (ss : List Nat), ss.sum = n → (Ls n ss).length = Wy ss
  | 0, ss, h => by rw [Wy, Wn_zero ss 0 h]; rfl
  | n + 1, ss, h => by
    rw [Wy_rec (ss := ss) (by omega)]
    show ((List.range ss.length).flatMap fun i => if ss.getD i 0 = 0 then [] else (Ls n (dec ss i)).map (i :: ·)).length = _
    rw [List.length_flatMap]
    unfold off
    congr 1
    refine List.map_congr_left fun i _ => ?_
    unfold Wt
    by_cases e : ss.getD i 0 = 0
    · rw [if_pos e, if_pos e]; rfl
    · rw [if_neg e, if_neg e, List.length_map, Ls_len n (dec ss i) (by have := dec_sum ss i e; omega)]; rfl
theorem fm_at {α : Type} (f : Nat → List α) (n x num : Nat) (hx : x < n) (h1 : ((List.range x).map fun i => (f i).length).sum ≤ num) (h2 : num - ((List.range x).map fun i => (f i).length).sum < (f x).length) :
    ((List.range n).flatMap f)[num]? = (f x)[num - ((List.range x).map fun i => (f i).length).sum]? := by
  have e : List.range n = List.range x ++ x :: List.range' (x + 1) (n - x - 1) := by
    rw [List.range_eq_range', List.range_eq_range', ← List.range'_succ, show n - x - 1 + 1 = n - x by omega]
    have := List.range'_append (s := 0) (m := x) (n := n - x) (step := 1)
    rw [Nat.one_mul, Nat.zero_add] at this
    rw [this]; congr 1; omega
  rw [e, List.flatMap_append, List.getElem?_append_right (by rw [List.length_flatMap]; exact h1), List.flatMap_cons, List.length_flatMap, List.getElem?_append_left h2]
theorem Ls_lens (n : Nat) (ss : List Nat) (h : ss.sum = n + 1) (k : Nat) : ((List.range k).map fun i => ((if ss.getD i 0 = 0 then [] else (Ls n (dec ss i)).map (i :: ·)) : List (List Nat)).length).sum = off 0 ss k := by
  unfold off
  congr 1
  refine List.map_congr_left fun i _ => ?_
  unfold Wt
  by_cases e : ss.getD i 0 = 0
  · rw [if_pos e, if_pos e]; rfl
  · rw [if_neg e, if_neg e, List.length_map, Ls_len n (dec ss i) (by have := dec_sum ss i e; omega)]; rfl
theorem Ls_rk : ∀ {os ss : List Nat}, Vd ss os → (Ls os.length ss)[rk ss os]? = some os
  | [], ss, h => rfl
  | o :: os, ss, hv => by
    obtain ⟨h1, h2, h3⟩ := hv
    have ih := Ls_rk h3
    have e := dec_sum ss o h2
    have sm := Vd_sum h3
    have ll := Ls_lens os.length ss (by omega) o
    have := fm_at (fun i => if ss.getD i 0 = 0 then [] else (Ls os.length (dec ss i)).map (i :: ·)) ss.length o (rk ss (o :: os)) h1 (by rw [ll]; exact Nat.le_add_right _ _) (by
      rw [ll, if_neg h2, List.length_map]
      show off 0 ss o + rk (dec ss o) os - off 0 ss o < _
      rw [Nat.add_sub_cancel_left]
      exact (List.getElem?_eq_some_iff.mp ih).1)
    rw [ll, if_neg h2] at this
    show ((List.range ss.length).flatMap fun i => if ss.getD i 0 = 0 then [] else (Ls os.length (dec ss i)).map (i :: ·))[rk ss (o :: os)]? = _
    rw [this]
    show ((Ls os.length (dec ss o)).map (o :: ·))[off 0 ss o + rk (dec ss o) os - off 0 ss o]? = _
    rw [Nat.add_sub_cancel_left, List.getElem?_map, ih]; rfl
theorem Ls_mem : ∀ (n : Nat) (ss os : List Nat), ss.sum = n → os ∈ Ls n ss → Vd ss os ∧ os.length = n
  | 0, ss, os, h, m => by
    have : os = [] := by simpa [Ls] using m
    subst this; exact ⟨h, rfl⟩
  | n + 1, ss, os, h, m => by
    obtain ⟨i, hi, m⟩ := List.mem_flatMap.mp m
    have hi := List.mem_range.mp hi
    by_cases e : ss.getD i 0 = 0
    · rw [if_pos e] at m; simp at m
    · rw [if_neg e] at m
      obtain ⟨os', m', rfl⟩ := List.mem_map.mp m
      have := dec_sum ss i e
      obtain ⟨v, l⟩ := Ls_mem n (dec ss i) os' (by omega) m'
      exact ⟨⟨hi, e, v⟩, by rw [List.length_cons, l]⟩
/-! hands by owners -/
def place : List Nat → List Nat → List Nat → List Nat
  | hs, c :: cs, o :: os => place (hs.set o (hs.getD o 0 ||| 2 ^ c)) cs os
  | hs, _, _ => hs
theorem place_len : ∀ (cs os hs : List Nat), (place hs cs os).length = hs.length
  | c :: cs, o :: os, hs => by
    show (place (hs.set o _) cs os).length = _
    rw [place_len cs os, List.length_set]
  | [], _, hs => by simp [place]
  | _ :: _, [], hs => by simp [place]
theorem set_get (hs : List Nat) (o j v : Nat) (ho : o < hs.length) : (hs.set o v).getD j 0 = if j = o then v else hs.getD j 0 := by
  simp only [List.getD_eq_getElem?_getD]
  by_cases e : o = j
  · subst e
    rw [List.getElem?_set_self ho, if_pos rfl]; rfl
  · rw [List.getElem?_set_ne e, if_neg (fun q => e q.symm)]
theorem place_bit : ∀ (cs os hs : List Nat) (j c : Nat), (∀ o ∈ os, o < hs.length) → ((place hs cs os).getD j 0).testBit c = ((hs.getD j 0).testBit c || decide ((c, j) ∈ cs.zip os))
  | c0 :: cs, o :: os, hs, j, c, ho => by
    have ho1 := ho o List.mem_cons_self
    show ((place (hs.set o (hs.getD o 0 ||| 2 ^ c0)) cs os).getD j 0).testBit c = _
    rw [place_bit cs os _ j c (fun x hx => by rw [List.length_set]; exact ho x (List.mem_cons_of_mem _ hx)), set_get _ _ _ _ ho1, List.zip_cons_cons]
    by_cases e : j = o
    · subst e
      rw [if_pos rfl, Nat.testBit_or, Nat.testBit_two_pow]
      by_cases e2 : c0 = c
      · subst e2; simp
      · simp [e2, Ne.symm e2]
    · rw [if_neg e]; simp [e]
  | [], os, hs, j, c, ho => by simp [place]
  | _ :: _, [], hs, j, c, ho => by simp [place]
theorem zip_own : ∀ {cs os : List Nat} {t c o : Nat}, cs.Nodup → cs[t]? = some c → os[t]? = some o → ∀ j, (c, j) ∈ cs.zip os ↔ j = o
  | c0 :: cs, o0 :: os, 0, c, o, nd, e1, e2, j => by
    simp at e1 e2; subst e1 e2
    rw [List.zip_cons_cons, List.mem_cons]
    constructor
    · rintro (h | h)
      · exact (Prod.mk.inj h).2
      · exact absurd (List.of_mem_zip h).1 (List.nodup_cons.mp nd).1
    · rintro rfl; exact .inl rfl
  | c0 :: cs, o0 :: os, t + 1, c, o, nd, e1, e2, j => by
    have e1 : cs[t]? = some c := by simpa using e1
    have e2 : os[t]? = some o := by simpa using e2
    rw [List.zip_cons_cons, List.mem_cons]
    have := zip_own (List.nodup_cons.mp nd).2 e1 e2 j
    rw [this]
    constructor
    · rintro (h | h)
      · have := (Prod.mk.inj h).1
        exact absurd (this ▸ List.mem_of_getElem? e1) (List.nodup_cons.mp nd).1
      · exact h
    · exact .inr
theorem cardsB_or (a c : Nat) (hc : a.testBit c = false) : ∀ n, (cardsB (a ||| 2 ^ c) n).length = (cardsB a n).length + if c < n then 1 else 0
  | 0 => by simp [cardsB]
  | n + 1 => by
    rw [cardsB_succ, cardsB_succ, List.length_append, List.length_append, cardsB_or a c hc n, Nat.testBit_or, Nat.testBit_two_pow]
    by_cases e : c = n
    · subst e
      rw [hc]; simp
    · have e2 : (if c < n + 1 then 1 else 0) = (if c < n then 1 else 0) := by
        by_cases q : c < n
        · rw [if_pos q, if_pos (by omega)]
        · rw [if_neg q, if_neg (by omega)]
      rw [e2, decide_eq_false e, Bool.or_false]
      omega
theorem place_many : ∀ (cs os hs : List Nat) (j : Nat), cs.length = os.length → cs.Nodup → (∀ c ∈ cs, c < 256 ∧ ∀ i, (hs.getD i 0).testBit c = false) → (∀ o ∈ os, o < hs.length) →
    (cards ((place hs cs os).getD j 0)).length = (cards (hs.getD j 0)).length + os.count j
  | [], [], hs, j, _, _, _, _ => by simp [place]
  | c :: cs, o :: os, hs, j, hl, nd, hc, ho => by
    have ho1 := ho o List.mem_cons_self
    have hc1 := hc c List.mem_cons_self
    obtain ⟨nd1, nd2⟩ := List.nodup_cons.mp nd
    show (cards ((place (hs.set o (hs.getD o 0 ||| 2 ^ c)) cs os).getD j 0)).length = _
    rw [place_many cs os _ j (by simpa using hl) nd2 (fun x hx => ⟨(hc x (List.mem_cons_of_mem _ hx)).1, fun i => ?_⟩) (fun x hx => by rw [List.length_set]; exact ho x (List.mem_cons_of_mem _ hx)), set_get _ _ _ _ ho1, List.count_cons]
    · by_cases e : j = o
      · subst e
        rw [if_pos rfl, if_pos (by simp)]
        have := cardsB_or (hs.getD j 0) c (hc1.2 j) 256
        rw [if_pos hc1.1] at this
        unfold cards at *
        omega
      · rw [if_neg e, if_neg (by simp; exact fun q => e q.symm)]
        omega
    · rw [set_get _ _ _ _ ho1]
      have hx2 := (hc x (List.mem_cons_of_mem _ hx)).2
      by_cases e : i = o
      · subst e
        rw [if_pos rfl, Nat.testBit_or, hx2 i, Nat.testBit_two_pow]
        have : c ≠ x := fun q => nd1 (q ▸ hx)
        simp [this]
      · rw [if_neg e]; exact hx2 i
theorem place_lt : ∀ (cs os hs : List Nat) (b : Nat), (∀ c ∈ cs, c < b) → (∀ h ∈ hs, h < 2 ^ b) → ∀ h ∈ place hs cs os, h < 2 ^ b
  | c :: cs, o :: os, hs, b, hc, hh, h, m => by
    refine place_lt cs os (hs.set o (hs.getD o 0 ||| 2 ^ c)) b (fun x hx => hc x (List.mem_cons_of_mem _ hx)) (fun x hx => ?_) h m
    rcases List.mem_or_eq_of_mem_set hx with hx | hx
    · exact hh x hx
    · rw [hx]
      refine Nat.or_lt_two_pow ?_ (Nat.pow_lt_pow_right (by decide) (hc c List.mem_cons_self))
      rw [List.getD_eq_getElem?_getD]
      cases e : hs[o]? with
      | none => exact Nat.two_pow_pos b
      | some v => exact hh v (List.mem_of_getElem? e)
  | [], _, hs, b, _, hh, h, m => by
    have : h ∈ hs := by simpa [place] using m
    exact hh h this
  | _ :: _, [], hs, b, _, hh, h, m => by
    have : h ∈ hs := by simpa [place] using m
    exact hh h this
/-- the hands of a share, asked card by card -/
structure Shd (ss cs os hs : List Nat) : Prop where
  v : Vd ss os
  l : cs.length = os.length
  hl : hs.length = ss.length
  lt : ∀ h ∈ hs, h < 2 ^ 256
  mn : hs.map (fun h => (cards h).length) = ss
  bt : ∀ (t c o : Nat), cs[t]? = some c → os[t]? = some o → ∀ j, j < hs.length → (hs.getD j 0).testBit c = decide (j = o)
theorem repl_get (k j : Nat) : (List.replicate k 0).getD j 0 = 0 := by
  rw [List.getD_eq_getElem?_getD, List.getElem?_replicate]
  by_cases e : j < k
  · rw [if_pos e]; rfl
  · rw [if_neg e]; rfl
theorem cards_zero : (cards 0).length = 0 := by unfold cards cardsB; simp
theorem shd_place {ss cs os : List Nat} (v : Vd ss os) (l : cs.length = os.length) (nd : cs.Nodup) (hc : ∀ c ∈ cs, c < 256) : Shd ss cs os (place (List.replicate ss.length 0) cs os) := by
  have ho : ∀ o ∈ os, o < (List.replicate ss.length 0).length := fun o h => by rw [List.length_replicate]; exact Vd_mem v o h
  refine ⟨v, l, by rw [place_len, List.length_replicate], place_lt cs os _ 256 hc fun h m => by rw [List.eq_of_mem_replicate m]; exact Nat.two_pow_pos _, ?_, fun t c o e1 e2 j _ => ?_⟩
  · refine List.ext_getElem? fun j => ?_
    rw [List.getElem?_map]
    by_cases hj : j < ss.length
    · have hj2 : j < (place (List.replicate ss.length 0) cs os).length := by rw [place_len, List.length_replicate]; exact hj
      have := place_many cs os (List.replicate ss.length 0) j l nd (fun c m => ⟨hc c m, fun i => by rw [repl_get]; exact Nat.zero_testBit c⟩) ho
      rw [repl_get, cards_zero, Nat.zero_add, ← Vd_count v j] at this
      rw [List.getElem?_eq_getElem hj2, List.getElem?_eq_getElem hj, Option.map_some]
      rw [List.getD_eq_getElem?_getD, List.getElem?_eq_getElem hj2, List.getD_eq_getElem?_getD, List.getElem?_eq_getElem hj] at this
      exact congrArg some this
    · rw [List.getElem?_eq_none (by rw [place_len, List.length_replicate]; omega), List.getElem?_eq_none (by omega)]; rfl
  · rw [place_bit cs os _ j c ho, repl_get, Nat.zero_testBit, Bool.false_or]
    exact decide_eq_decide.mpr (zip_own nd e1 e2 j)
/-- comprehensions that keep each item -/
theorem lcE {α : Type} {g : ZG1} {tt : ZTB} {t : ZT} {vs : List Nat} {K : List D → SS → Prop} (emb f : α → D) (s0 : SS) : ∀ (l : List α) (acc : List D), acc.length + l.length ≤ 1000 →
    (∀ a ∈ l, ∀ rest acc, acc.length < 1000 → zLcL g tt t vs K rest (acc ++ [f a]) s0 → zLcL g tt t vs K (emb a :: rest) acc s0) → K (acc ++ l.map f) s0 → zLcL g tt t vs K (l.map emb) acc s0
  | [], acc, _, _, q => by rw [List.map_nil, List.append_nil] at q; exact q
  | a :: l, acc, hl, st, q => by
    have hl' : acc.length + (l.length + 1) ≤ 1000 := hl
    refine st a List.mem_cons_self _ acc (by omega) ?_
    refine lcE emb f s0 l _ (by rw [List.length_append]; show acc.length + 1 + _ ≤ _; omega) (fun b hb => st b (List.mem_cons_of_mem _ hb)) ?_
    rw [List.append_assoc]; exact q
theorem lcEO {α : Type} {v0 : Nat} {all : List D} {g : ZG1} {tt : ZTB} {t : ZT} {vs : List Nat} {K : List D → SS → Prop} (emb f : α → D) (s0 : SS) (e0 : s0[v0]? = some (some (.lst all))) : ∀ (l : List α) (acc : List D), acc.length + l.length ≤ 1000 →
    (∀ a ∈ l, ∀ rest acc, acc.length < 1000 → zLcLO v0 all g tt t vs K rest (acc ++ [f a]) s0 → zLcLO v0 all g tt t vs K (emb a :: rest) acc s0) → K (acc ++ l.map f) s0 → zLcLO v0 all g tt t vs K (l.map emb) acc s0
  | [], acc, _, _, q => ⟨Sd.mk e0, by rw [List.map_nil, List.append_nil] at q; exact q⟩
  | a :: l, acc, hl, st, q => by
    have hl' : acc.length + (l.length + 1) ≤ 1000 := hl
    refine st a List.mem_cons_self _ acc (by omega) ?_
    refine lcEO emb f s0 e0 l _ (by rw [List.length_append]; show acc.length + 1 + _ ≤ _; omega) (fun b hb => st b (List.mem_cons_of_mem _ hb)) ?_
    rw [List.append_assoc]; exact q
/-! comprehensions that only read, with a test -/
theorem lcG {α : Type} {g : ZG1} {tt : ZTB} {t : ZT} {vs : List Nat} {K : List D → SS → Prop} (emb f : α → D) (P : α → Bool) (s0 : SS) : ∀ (l : List α) (acc : List D), acc.length + l.length ≤ 1000 →
    (∀ a ∈ l, ∀ rest acc, acc.length < 1000 → (P a = true → zLcL g tt t vs K rest (acc ++ [f a]) s0) → (P a = false → zLcL g tt t vs K rest acc s0) → zLcL g tt t vs K (emb a :: rest) acc s0) →
    K (acc ++ (l.filter P).map f) s0 → zLcL g tt t vs K (l.map emb) acc s0
  | [], acc, _, _, q => by rw [List.filter_nil, List.map_nil, List.append_nil] at q; exact q
  | a :: l, acc, hl, st, q => by
    have hl' : acc.length + (l.length + 1) ≤ 1000 := hl
    refine st a List.mem_cons_self _ acc (by omega) (fun p => ?_) (fun p => ?_)
    · refine lcG emb f P s0 l _ (by rw [List.length_append]; show acc.length + 1 + _ ≤ _; omega) (fun b hb => st b (List.mem_cons_of_mem _ hb)) ?_
      rw [List.filter_cons, if_pos p, List.map_cons] at q
      rw [List.append_assoc]; exact q
    · refine lcG emb f P s0 l _ (by omega) (fun b hb => st b (List.mem_cons_of_mem _ hb)) ?_
      rw [List.filter_cons, if_neg (by rw [p]; decide)] at q
      exact q
/-! ### the law's own numbers -/
def sp_law_mixed : FS := fun ds Q _ => ∃ (m : Nat) (ns : List Int) (k : Int), ds = [.lst m (ns.map .int), .int k] ∧ (ns.length : Int) ≤ 63 ∧ 0 ≤ k ∧ k < 2 ^ 20 ∧ ∀ r : Int, 0 ≤ r → r < 2 ^ 2000 → Q (.d (.int r))
def r_law_mixed (Wz : WZ) : ZTS :=
  (zSeq (zSet 2 (zBin zAddC (zVar 1) (zC (.int 3))))
  (zSeq (zIfS (zT (zBin zGtX (zCB zLenC (zaCons (zVar 0) zaNil)) (zC (.int 0)))) (zSet 2 (zBin zAddC (zVar 2) (zBin zMulC (zBin zModC (zBin zIxC (zVar 0) (zBin zModC (zVar 1) (zCB zLenC (zaCons (zVar 0) zaNil)))) (zBin zPowC (zC (.int 10)) (zC (.int 64)))) (zBin zAddC (zBin zFdivC (zVar 1) (zCB zLenC (zaCons (zVar 0) zaNil))) (zC (.int 1)))))) zNext)
  (zSeq (zSet 3 (zBin zMulC (zVar 2) (zC (.int 6364136223846793005))))
  (zRet (zBin zFdivC (zBin zMulC (zBin zMulC (zVar 3) (zVar 3)) (zVar 3)) (zC (.int 1000003)))))))
theorem read_law_mixed (ds : List D) (Q : RV → Prop) (E : EZ) (hs : sp_law_mixed ds Q E) : r_law_mixed (fun cls ns es _ => E cls ns es) ⟨fun _ => Q (.d .non), retK Q, fun _ => False, fun _ => False⟩ (args ds 4) := by
  obtain ⟨m, ns, k, rfl, hlen, k0, k1, q⟩ := hs
  have rest : ∀ (n : Int) (x0 x1 : Option O), 0 ≤ n → n < 2 ^ 300 → zSeq (zSet 3 (zBin zMulC (zVar 2) (zC (.int 6364136223846793005)))) (zRet (zBin zFdivC (zBin zMulC (zBin zMulC (zVar 3) (zVar 3)) (zVar 3)) (zC (.int 1000003)))) ⟨fun _ => Q (.d .non), retK Q, fun _ => False, fun _ => False⟩ [x0, x1, some (.pure (.int n)), none] := by
    intro n x0 x1 n0 n1
    have c1 : CMulW n 6364136223846793005 := mulW 300 64 n0 n1 (by decide) (by decide)
    have b1 := mul_lt 300 64 n0 n1 (by decide : (0 : Int) ≤ 6364136223846793005) (by decide)
    conv => whnf
    refine And.intro (Sd.mk c1) ?_
    conv => whnf
    show Sd (CMulW (n * 6364136223846793005) (n * 6364136223846793005)) ∧ _
    generalize n * 6364136223846793005 = r at b1
    have b2 := mul_lt 364 364 b1.1 b1.2 b1.1 b1.2
    have b3 := mul_lt 728 364 b2.1 b2.2 b1.1 b1.2
    refine And.intro (Sd.mk (mulW 364 364 b1.1 b1.2 b1.1 b1.2)) ?_
    conv => whnf
    refine And.intro (Sd.mk (mulW 728 364 b2.1 b2.2 b1.1 b1.2)) ?_
    conv => whnf
    refine And.intro (Sd.mk (divW (by decide) (Int.lt_of_lt_of_le (by decide : (1000003 : Int) < 2 ^ 20) (pow_le2 (by decide))))) ?_
    conv => whnf
    refine q _ (Int.ediv_nonneg b3.1 (by decide)) ?_
    refine Int.lt_of_le_of_lt (Int.ediv_le_self _ b3.1) (Int.lt_of_lt_of_le b3.2 (pow_le2 (by decide)))
  walk_at "zz"
  refine ⟨fun h => ?_, fun h => ?_⟩
  · have hl : 0 < (ns.map D.int).length := Int.ofNat_lt.mp (of_decide_eq_true h)
    have hl2 : 0 < ns.length := by rw [List.length_map] at hl; exact hl
    have hl3 : (0 : Int) < ((ns.map D.int).length : Int) := Int.ofNat_lt.mpr hl
    walk_at "zz"
    obtain ⟨v, hv⟩ := at_int (ns := ns) (i := k % ((ns.map D.int).length : Int)) (Int.emod_nonneg _ (by omega)) (by have := Int.emod_lt_of_pos k hl3; rw [List.length_map] at this ⊢; exact this)
    refine ⟨_, hv, ?_⟩
    walk_at "zz"
    have hd : CDivW k ((ns.map D.int).length : Int) := divW hl3 (by rw [List.length_map] at hl3 ⊢; exact Int.lt_of_le_of_lt hlen (Int.lt_of_lt_of_le (by decide : (63 : Int) < 2 ^ 20) (pow_le2 (by decide))))
    refine And.intro (Sd.mk hd) ?_
    conv => whnf
    have a1 : 0 ≤ v % 10 ^ 64 ∧ v % 10 ^ 64 < 2 ^ 230 := ⟨Int.emod_nonneg _ (by decide), Int.lt_trans (Int.emod_lt_of_pos _ (by decide)) (by decide)⟩
    have a2 : 0 ≤ k / ((ns.map D.int).length : Int) + 1 ∧ k / ((ns.map D.int).length : Int) + 1 < 2 ^ 30 := by
      have e1 := Int.ediv_nonneg k0 (Int.le_of_lt hl3)
      have e2 := Int.ediv_le_self ((ns.map D.int).length : Int) k0
      refine ⟨by omega, ?_⟩
      have : (2 : Int) ^ 20 + 1 < 2 ^ 30 := by decide
      omega
    have b := mul_lt 230 30 a1.1 a1.2 a2.1 a2.2
    refine And.intro (Sd.mk (mulW 230 30 a1.1 a1.2 a2.1 a2.2)) ?_
    refine rest _ _ _ (Int.add_nonneg (by show 0 ≤ k + 3; omega) b.1) ?_
    have e3 : k + 3 < 2 ^ 30 := by
      have : (2 : Int) ^ 20 + 3 < 2 ^ 30 := by decide
      omega
    exact Int.lt_of_lt_of_le (Int.add_lt_add e3 b.2) (by decide)
  · refine rest _ _ _ (by show 0 ≤ k + 3; omega) ?_
    have := pow_le2 (n := 30) (m := 300) (by decide)
    have : (2 : Int) ^ 20 + 3 < 2 ^ 30 := by decide
    show k + 3 < _
    omega
def sp_law_whole : FS := fun ds Q _ => ∃ i : Int, ds = [.int i] ∧ Q (.d (.bl true))
def r_law_whole (Wz : WZ) : ZTS :=
  (zRet (zAndV (zIsi .int (zVar 0)) (zNotV (zIsi .bool (zVar 0)))))
theorem read_law_whole (ds : List D) (Q : RV → Prop) (E : EZ) (hs : sp_law_whole ds Q E) : r_law_whole (fun cls ns es _ => E cls ns es) ⟨fun _ => Q (.d .non), retK Q, fun _ => False, fun _ => False⟩ (args ds 1) := by
  obtain ⟨i, rfl, q⟩ := hs
  walk_at "zz"
  exact q
/-! ### the program's shares -/
theorem at_N {l : List Nat} {k : Nat} (h : k < l.length) : atI (dNs l) (k : Int) = some (.int (l.getD k 0 : Nat)) := by
  obtain ⟨q, e⟩ := atI_in (xs := dNs l) (i := (k : Int)) (by omega) (by rw [dNs_len]; omega)
  rw [e]
  congr 1
  have : (dNs l)[((k : Int)).toNat] = dN l[k] := by unfold dNs; exact List.getElem_map _
  rw [this]
  unfold dN
  rw [List.getD_eq_getElem?_getD, List.getElem?_eq_getElem h]; rfl
theorem rng0N (h : Nat) : rngD 0 ((h : Nat) : Int).toNat = dNs (List.range h) := by
  unfold rngD dNs dN
  rw [Int.toNat_natCast]
  congr 1; funext i; rw [Int.zero_add]
theorem eq_N (n m : Nat) : D.eq (.int (n : Nat)) (.int (m : Nat)) = decide (n = m) := by
  show decide ((n : Int) = (m : Int)) = _
  exact decide_eq_decide.mpr Int.ofNat_inj
theorem rng1N (h : Nat) : rngD 1 ((h : Nat) : Int).toNat = dNs (List.range' 1 h) := by
  unfold rngD dNs dN
  rw [Int.toNat_natCast, List.range'_eq_map_range, List.map_map]
  refine List.map_congr_left fun i _ => ?_
  show D.int (1 + (i : Int)) = D.int (((1 + i : Nat)) : Int)
  congr 1
theorem sum_nat : ∀ l : List Nat, (l.map Int.ofNat).sum = ((l.sum : Nat) : Int)
  | [] => rfl
  | a :: l => by rw [List.map_cons, List.sum_cons, List.sum_cons, sum_nat l, Int.natCast_add]; rfl
def sp_ways : FS := fun ds Q _ => ∃ (m : Nat) (ss : List Nat), ds = [.lst m (dNs ss)] ∧ ss.length ≤ 8 ∧ ss.sum ≤ 40 ∧ Q (.d (.int (Wy ss : Nat)))
def r_ways_b2 (Wz : WZ) : ZTS :=
  (zSeq (zSet 2 (zBin zAddC (zVar 2) (zC (.int 1))))
  (zSet 1 (zBin zFdivC (zBin zMulC (zVar 1) (zVar 2)) (zVar 4))))
def r_ways_b1 (Wz : WZ) : ZTS :=
  (zFor (ziR2 (zaCons (zC (.int 1)) (zaCons (zBin zAddC (zVar 3) (zC (.int 1))) zaNil))) (gN 4) (r_ways_b2 Wz))
def r_ways (Wz : WZ) : ZTS :=
  (zSeq (zSet 1 (zC (.int 1)))
  (zSeq (zSet 2 (zC (.int 0)))
  (zSeq (zFor (ziSeq (zVar 0)) (gN 3) (r_ways_b1 Wz))
  (zRet (zVar 1)))))
theorem ways_inner (Wz : WZ) (nx : SS → Prop) (rt : RV → SS → Prop) (x0 x3 : Option O) (M : Nat) (hM : M ≤ 1000) (f t s : Nat) (hf : f < 2 ^ M) (ht : t + s ≤ 40) (q : ∀ y, nx [x0, some (.pure (.int (f * ch (t + s) s : Nat))), some (.pure (.int (t + s : Nat))), x3, y]) : ∀ (n k : Nat) (y : Option O), k + n = s →
    zForL (gN 4) (r_ways_b2 Wz) nx rt (dNs (List.range' (1 + k) n)) [x0, some (.pure (.int (f * ch (t + k) k : Nat))), some (.pure (.int (t + k : Nat))), x3, y]
  | 0, k, y, e => by rw [show s = k by omega] at q; exact q y
  | n + 1, k, y, e => by
    show zForL (gN 4) (r_ways_b2 Wz) nx rt (D.int ((1 + k : Nat) : Int) :: dNs (List.range' (1 + k + 1) n)) _
    have hc : f * ch (t + k) k < 2 ^ (M + 40) := by
      have h1 := ch_le (t + k) k
      have h2 : (2 : Nat) ^ (t + k) ≤ 2 ^ 40 := Nat.pow_le_pow_right (by decide) (by omega)
      calc f * ch (t + k) k ≤ f * 2 ^ 40 := Nat.mul_le_mul_left _ (Nat.le_trans h1 h2)
        _ < 2 ^ M * 2 ^ 40 := Nat.mul_lt_mul_of_pos_right hf (by decide)
        _ = 2 ^ (M + 40) := by rw [← Nat.pow_add]
    have c1 : CMulW ((f * ch (t + k) k : Nat) : Int) (((t + k : Nat) : Int) + 1) := mulW (M + 40) 40 (Int.natCast_nonneg _) (by have := Int.ofNat_lt.mpr hc; rw [Int.natCast_pow] at this; exact this) (by omega) (by
      have : ((t + k : Nat) : Int) + 1 ≤ 41 := by omega
      exact Int.lt_of_le_of_lt this (by decide)) (by omega)
    have c2 : CDivW (((f * ch (t + k) k : Nat) : Int) * (((t + k : Nat) : Int) + 1)) ((1 + k : Nat) : Int) := divW (by omega) (by
      have : ((1 + k : Nat) : Int) ≤ 41 := by omega
      exact Int.lt_of_le_of_lt this (Int.lt_of_lt_of_le (by decide : (41 : Int) < 2 ^ 20) (pow_le2 (by decide))))
    have e1 : ((f * ch (t + k) k : Nat) : Int) * (((t + k : Nat) : Int) + 1) / ((1 + k : Nat) : Int) = ((f * ch (t + (k + 1)) (k + 1) : Nat) : Int) := by
      rw [← ch_step f t k, Int.natCast_ediv, Int.natCast_mul (f * ch (t + k) k), Nat.add_comm 1 k]; rfl
    have e2 : ((t + k : Nat) : Int) + 1 = ((t + (k + 1) : Nat) : Int) := by omega
    have this := ways_inner Wz nx rt x0 x3 M hM f t s hf ht q n (k + 1) (some (.pure (.int ((1 + k : Nat) : Int)))) (by omega)
    rw [← e1, ← e2, ← Nat.add_assoc] at this
    generalize f * ch (t + k) k = z at *
    walk_at "zz"
    exact this
structure Bnd (f n M : Nat) : Prop where
  h : f * 2 ^ (40 * n) < 2 ^ M
set_option maxHeartbeats 200000 in
theorem ways_outer (Wz : WZ) (nx : SS → Prop) (rt : RV → SS → Prop) (x0 : Option O) (M : Nat) (hM : M ≤ 1000) : ∀ (ss : List Nat) (f t : Nat) (x3 x4 : Option O), Bnd f ss.length M → t + ss.sum ≤ 40 → (∀ x2 x3 x4, nx [x0, some (.pure (.int (f * Wn t ss : Nat))), x2, x3, x4]) →
    zForL (gN 3) (r_ways_b1 Wz) nx rt (dNs ss) [x0, some (.pure (.int (f : Nat))), some (.pure (.int (t : Nat))), x3, x4]
  | [], f, t, x3, x4, hf, ht, q => by
    have q := q (some (.pure (.int (t : Nat)))) x3 x4
    have e : f * Wn t [] = f := Nat.mul_one f
    rw [e] at q
    exact q
  | s :: ss, f, t, x3, x4, hf, ht, q => by
    rw [List.sum_cons] at ht
    have hf := hf.h
    rw [List.length_cons] at hf
    have h1 : ch (t + s) s ≤ 2 ^ 40 := Nat.le_trans (ch_le _ _) (Nat.pow_le_pow_right (by decide) (by omega))
    have hf2 : f * ch (t + s) s * 2 ^ (40 * ss.length) < 2 ^ M := by
      refine Nat.lt_of_le_of_lt ?_ hf
      rw [Nat.mul_assoc]
      refine Nat.mul_le_mul_left _ ?_
      rw [Nat.mul_succ, Nat.pow_add, Nat.mul_comm (2 ^ (40 * ss.length))]
      exact Nat.mul_le_mul_right _ h1
    have hf3 : f < 2 ^ M := Nat.lt_of_le_of_lt (Nat.le_mul_of_pos_right _ (Nat.two_pow_pos _)) hf
    have := ways_inner Wz (fun st => zForL (gN 3) (r_ways_b1 Wz) nx rt (dNs ss) st) rt x0 (some (.pure (.int (s : Nat)))) M hM f t s hf3 (by omega) (fun y => ways_outer Wz nx rt x0 M hM ss (f * ch (t + s) s) (t + s) _ y ⟨hf2⟩ (by omega) (fun x2 x3 x4 => by
      have := q x2 x3 x4
      rw [show f * ch (t + s) s * Wn (t + s) ss = f * Wn t (s :: ss) from Nat.mul_assoc _ _ _]; exact this)) s 0 x4 (by omega)
    rw [Nat.add_zero, ch_zero, Nat.mul_one, Nat.add_zero, ← rng1N] at this
    show zForL (gN 3) (r_ways_b1 Wz) nx rt (D.int (s : Nat) :: dNs ss) _
    walk_at "zz"
    rw [show (s : Int) + 1 - 1 = (s : Nat) by omega]
    exact this
theorem read_ways (ds : List D) (Q : RV → Prop) (E : EZ) (hs : sp_ways ds Q E) : r_ways (fun cls ns es _ => E cls ns es) ⟨fun _ => Q (.d .non), retK Q, fun _ => False, fun _ => False⟩ (args ds 5) := by
  obtain ⟨m, ss, rfl, hl, hs, q⟩ := hs
  walk_at "zz"
  refine ways_outer _ _ _ _ (40 * ss.length + 1) (by omega) ss 1 0 _ _ ?_ (by omega) fun x2 x3 x4 => ?_
  · exact ⟨by rw [Nat.one_mul]; exact Nat.pow_lt_pow_right (by decide) (by omega)⟩
  · rw [Nat.one_mul]; exact q
def sp_ways_with : FS := fun ds Q _ => ∃ (m : Nat) (ss : List Nat) (i : Nat), ds = [.lst m (dNs ss), .int (i : Nat)] ∧ i < ss.length ∧ ss.length ≤ 8 ∧ ss.sum ≤ 40 ∧ Q (.d (.int (Wt 0 ss i : Nat)))
def r_ways_with_e1 (Wz : WZ) : ZT :=
  (zBin zSubC (zBin zIxC (zVar 0) (zVar 2)) (zCB zIntC (zaCons (zBin zEqC (zVar 2) (zVar 1)) zaNil)))
def r_ways_with (Wz : WZ) : ZTS :=
  (zSeq (zIfS (zT (zBin zEqC (zBin zIxC (zVar 0) (zVar 1)) (zC (.int 0)))) (zRet (zC (.int 0))) zNext)
  (zRet (zCall sp_ways Wz (zaCons (zLc (ziR1 (zaCons (zCB zLenC (zaCons (zVar 0) zaNil)) zaNil)) (gN 2) zYes (r_ways_with_e1 W0) [2]) zaNil))))
theorem dec_eq (ss : List Nat) (i : Nat) (h : ss.getD i 0 ≠ 0) : (List.range ss.length).map (fun k : Nat => D.int (((ss.getD k 0 : Nat) : Int) - if D.eq (.int (k : Nat)) (.int (i : Nat)) = true then 1 else 0)) = dNs (dec ss i) := by
  unfold dNs dN
  refine List.ext_getElem? fun j => ?_
  rw [List.getElem?_map, List.getElem?_map]
  by_cases hj : j < ss.length
  · have hi : i < ss.length := by
      rcases Nat.lt_or_ge i ss.length with q | q
      · exact q
      · rw [List.getD_eq_getElem?_getD, List.getElem?_eq_none q] at h; exact absurd rfl h
    have g := dec_get ss i j hi
    have hj2 : j < (dec ss i).length := by rw [dec_len]; exact hj
    rw [List.getD_eq_getElem?_getD, List.getElem?_eq_getElem hj2] at g
    rw [List.getElem?_range hj, List.getElem?_eq_getElem hj2, Option.map_some, Option.map_some, eq_N]
    have g : (dec ss i)[j] = _ := g
    rw [g]
    congr 2
    by_cases e : j = i
    · subst e; rw [if_pos (by simp), if_pos rfl]; omega
    · rw [if_neg (by simpa using e), if_neg e]; omega
  · rw [List.getElem?_eq_none (by simpa using hj), List.getElem?_eq_none (by rw [dec_len]; omega)]; rfl
theorem read_ways_with (ds : List D) (Q : RV → Prop) (E : EZ) (hs : sp_ways_with ds Q E) : r_ways_with (fun cls ns es _ => E cls ns es) ⟨fun _ => Q (.d .non), retK Q, fun _ => False, fun _ => False⟩ (args ds 3) := by
  obtain ⟨m, ss, i, rfl, hi, hl, hs, q⟩ := hs
  walk_at "zz"
  refine ⟨_, at_N hi, ?_⟩
  walk_at "zz"
  refine ⟨fun h => ?_, fun h => ?_⟩
  · have h : ss.getD i 0 = 0 := Int.ofNat_inj.mp (bT h)
    have : Wt 0 ss i = 0 := by unfold Wt; rw [if_pos h]
    rw [this] at q; exact q
  have h : ss.getD i 0 ≠ 0 := fun e => bF h (by rw [e]; rfl)
  walk_at "zz"
  have hl3 : (dNs ss).length = ss.length := dNs_len ss
  refine And.intro (Sd.mk (by rw [hl3]; omega)) ?_
  show fc _ _
  conv => whnf
  rw [rng0N, hl3]
  refine lcE dN (fun k : Nat => D.int (((ss.getD k 0 : Nat) : Int) - if D.eq (.int (k : Nat)) (.int (i : Nat)) = true then 1 else 0)) _ (List.range ss.length) [] (by simp; omega) (fun k hk rest acc ha nx => ?_) ?_
  · have hk := List.mem_range.mp hk
    have ha2 : acc.length < sizeLine := by rw [sizeLine_eq]; omega
    unfold dN
    walk_at "zz"
    refine ⟨_, at_N hk, ?_⟩
    walk_at "zz"
    exact nx
  · rw [List.nil_append, dec_eq ss i h]
    conv => whnf
    refine ⟨0, dec ss i, rfl, by rw [dec_len]; exact hl, by have := dec_sum ss i h; omega, ?_⟩
    have : Wt 0 ss i = Wy (dec ss i) := by unfold Wt; rw [if_neg h]; rfl
    rw [this] at q; exact q
/-- the shares that there are -/
def ShareOk (cs ss : List Nat) (num : Int) : Prop := ss.sum = cs.length ∧ 0 ≤ num ∧ num < (Wy ss : Nat)
def sp_share : FS := fun ds Q E => ∃ (m m2 : Nat) (cs ss : List Nat) (num : Int), ds = [.lst m (dNs cs), .lst m2 (dNs ss), .int num] ∧ (m2 != 2) = true ∧ (∀ c ∈ cs, c ≤ 1000) ∧ ss.length ≤ 8 ∧ ss.sum ≤ 40 ∧
  (ShareOk cs ss num → ∀ os, Vd ss os → os.length = cs.length → (rk ss os : Int) = num → Q (.new (.lst (dNs (place (List.replicate ss.length 0) cs os))))) ∧ (¬ ShareOk cs ss num → E c_NoShare [] [])
def r_share_b2 (Wz : WZ) : ZTS :=
  (zSeq (zSet 2 (zBin zSubC (zVar 2) (zCall sp_ways_with Wz (zaCons (zVar 1) (zaCons (zVar 5) zaNil)))))
  (zSet 5 (zBin zAddC (zVar 5) (zC (.int 1)))))
def r_share_b1 (Wz : WZ) : ZTS :=
  (zSeq (zSet 5 (zC (.int 0)))
  (zSeq (zWhile (zT (zBin zGeC (zVar 2) (zCall sp_ways_with Wz (zaCons (zVar 1) (zaCons (zVar 5) zaNil))))) (r_share_b2 Wz))
  (zSeq (zAsg (zBin zSubC (zBin zIxC (zVar 1) (zVar 5)) (zC (.int 1))) (gSubL (zVar 1) (zVar 5)))
  (zAsg (zBin zBOrC (zBin zIxC (zVar 3) (zVar 5)) (zBin zShlC (zC (.int 1)) (zVar 4))) (gSubL (zVar 3) (zVar 5))))))
def r_share (Wz : WZ) : ZTS :=
  (zSeq (zIfS (zOr (zT (zBin zNeC (zCB zSumC (zaCons (zVar 1) zaNil)) (zCB zLenC (zaCons (zVar 0) zaNil)))) (zOr (zT (zBin zLtX (zVar 2) (zC (.int 0)))) (zT (zBin zGeC (zVar 2) (zCall sp_ways Wz (zaCons (zVar 1) zaNil)))))) (zRaise c_NoShare Wz) zNext)
  (zSeq (zSet 1 (zCB zListC (zaCons (zVar 1) zaNil)))
  (zSeq (zSet 3 (zRep (zLst (zdCons (zC (.int 0)) zdNil)) (zCB zLenC (zaCons (zVar 1) zaNil))))
  (zSeq (zFor (ziSeq (zVar 0)) (gN 4) (r_share_b1 Wz))
  (zRet (zVar 3))))))
theorem dNs_set (l : List Nat) (i v : Nat) : (dNs l).set i (.int (v : Nat)) = dNs (l.set i v) := by
  unfold dNs; rw [List.map_set]; rfl
theorem ix_N {n k : Nat} (h : k < n) : ixN n (k : Int) = some k := by
  unfold ixN
  first | (rw [if_neg (by omega)]; simp; omega) | (simp; omega)
theorem share_loop (Wz : WZ) (nx : SS → Prop) (rt : RV → SS → Prop) (x0 : Option O) : ∀ (cs ss hs : List Nat) (num : Nat) (x4 x5 : Option O), ss.length ≤ 8 → ss.sum ≤ 40 → hs.length = ss.length → (∀ c ∈ cs, c ≤ 1000) → ss.sum = cs.length → num < Wy ss →
    (∀ os x1 x2 x4 x5, Vd ss os → os.length = cs.length → rk ss os = num → nx [x0, x1, x2, some (.lst (dNs (place hs cs os))), x4, x5]) →
    zForL (gN 4) (r_share_b1 Wz) nx rt (dNs cs) [x0, some (.lst (dNs ss)), some (.pure (.int (num : Nat))), some (.lst (dNs hs)), x4, x5]
  | [], ss, hs, num, x4, x5, hl, hs40, hh, hc, hsum, hn, q => by
    have h1 : Wy ss = 1 := Wn_zero ss 0 hsum
    have h2 : (0 : Nat) = num := by omega
    exact q [] _ _ _ _ hsum rfl h2
  | c :: cs, ss, hs, num, x4, x5, hl, hs40, hh, hc, hsum, hn, q => by
    have hc1 : c ≤ 1000 := hc c List.mem_cons_self
    have hsum1 : ss.sum = cs.length + 1 := hsum
    have hrec := Wy_rec (ss := ss) (by omega)
    show zForL (gN 4) (r_share_b1 Wz) nx rt (D.int (c : Nat) :: dNs cs) _
    walk_at "zz"
    refine while_W (fun m st => ∃ seat : Nat, m = ss.length - seat ∧ off 0 ss seat ≤ num ∧ st = [x0, some (.lst (dNs ss)), some (.pure (.int ((num - off 0 ss seat : Nat) : Int))), some (.lst (dNs hs)), some (.pure (.int (c : Nat))), some (.pure (.int (seat : Nat)))]) ss.length ⟨0, rfl, Nat.zero_le _, rfl⟩ ?_
    rintro m st ⟨seat, hm, ho, rfl⟩
    have hseat : seat < ss.length := by
      rcases Nat.lt_or_ge seat ss.length with r | r
      · exact r
      · have := off_mono 0 ss r; omega
    have hsu := off_succ 0 ss seat
    walk_at "zz"
    refine ⟨1, ss, seat, rfl, hseat, hl, hs40, ?_⟩
    walk_at "zz"
    refine ⟨fun h => ?_, fun h => ?_⟩
    · have h := Int.ofNat_le.mp (bT h)
      walk_at "zz"
      refine ⟨1, ss, seat, rfl, hseat, hl, hs40, ?_⟩
      walk_at "zz"
      refine ⟨ss.length - (seat + 1), by omega, seat + 1, rfl, by omega, ?_⟩
      rw [show num - off 0 ss (seat + 1) = num - off 0 ss seat - Wt 0 ss seat by omega, Int.ofNat_sub h]; rfl
    · have h : ¬ Wt 0 ss seat ≤ num - off 0 ss seat := fun e => bF h (Int.ofNat_le.mpr e)
      have hw : Wt 0 ss seat ≠ 0 := fun e => h (by omega)
      have hz : ss.getD seat 0 ≠ 0 := fun e => hw (by unfold Wt; rw [if_pos e])
      have hw2 : Wt 0 ss seat = Wy (dec ss seat) := by unfold Wt; rw [if_neg hz]; rfl
      have hd := dec_sum ss seat hz
      walk_at "zz"
      refine ⟨_, at_N hseat, ?_⟩
      walk_at "zz"
      refine ⟨seat, Sd.mk (ix_N (by rw [dNs_len]; exact hseat)), ?_⟩
      walk_at "zz"
      refine ⟨_, at_N (by rw [hh]; exact hseat), ?_⟩
      walk_at "zz"
      refine ⟨seat, Sd.mk (ix_N (by rw [dNs_len, hh]; exact hseat)), ?_⟩
      have := share_loop Wz nx rt x0 cs (dec ss seat) (hs.set seat (hs.getD seat 0 ||| 2 ^ c)) (num - off 0 ss seat) (some (.pure (.int (c : Nat)))) (some (.pure (.int (seat : Nat)))) (by rw [dec_len]; exact hl) (by omega) (by rw [List.length_set, dec_len]; exact hh)
        (fun x hx => hc x (List.mem_cons_of_mem _ hx)) (by omega) (by omega) (fun os y1 y2 y4 y5 v l r => q (seat :: os) y1 y2 y4 y5 ⟨hseat, hz, v⟩ (by rw [List.length_cons, l]; rfl) (by show off 0 ss seat + rk (dec ss seat) os = num; omega))
      unfold dec at this
      rw [← dNs_set, ← dNs_set, ← bitOr_nat, ← shl_one, Int.ofNat_sub (show 1 ≤ ss.getD seat 0 by omega)] at this
      exact this
theorem read_share (ds : List D) (Q : RV → Prop) (E : EZ) (hs : sp_share ds Q E) : r_share (fun cls ns es _ => E cls ns es) ⟨fun _ => Q (.d .non), retK Q, fun _ => False, fun _ => False⟩ (args ds 6) := by
  obtain ⟨m, m2, cs, ss, num, rfl, hm, hc, hl, hs, q, e⟩ := hs
  walk_at "zz"
  refine ⟨m2, ss.map Int.ofNat, by rw [dNs_ints], ?_⟩
  rw [sum_nat]
  walk_at "zz"
  rw [dNs_len, eq_N]
  refine ⟨fun h => ?_, fun h => ?_⟩
  · walk_at "zz"
    exact e fun k => nbT h k.1
  have h1 : ss.sum = cs.length := nbF h
  walk_at "zz"
  refine ⟨fun h => ?_, fun h => ?_⟩
  · have h2 := bT h
    walk_at "zz"
    exact e fun k => absurd k.2.1 (by omega)
  have h2 := bF h
  walk_at "zz"
  refine ⟨m2, ss, rfl, hl, hs, ?_⟩
  walk_at "zz"
  refine ⟨fun h => ?_, fun h => ?_⟩
  · have h3 := bT h
    walk_at "zz"
    exact e fun k => absurd k.2.2 (by omega)
  have h3 := bF h
  obtain ⟨n, rfl⟩ : ∃ n : Nat, num = (n : Nat) := ⟨num.toNat, by omega⟩
  have q := q ⟨h1, by omega, by omega⟩
  conv => whnf
  refine And.intro (Sd.mk (by rw [sizeLine_eq]; decide)) ?_
  conv => whnf
  have hl3 : (dNs ss).length = ss.length := dNs_len ss
  refine And.intro (Sd.mk ⟨by rw [hl3]; omega, by rw [hl3, sizeLine_eq, Int.toNat_natCast]; show 1 * ss.length ≤ _; omega⟩) ?_
  refine And.intro (Sd.mk (by omega)) ?_
  have er : (List.replicate ((((dNs ss).length : Nat) : Int)).toNat [D.int 0]).flatten = dNs (List.replicate ss.length 0) := by
    rw [Int.toNat_natCast, hl3]
    unfold dNs dN
    rw [List.map_replicate]
    generalize ss.length = k
    induction k with
    | zero => rfl
    | succ k ih => rw [List.replicate_succ, List.flatten_cons, ih, List.replicate_succ]; rfl
  rw [er]
  walk_at "zz"
  refine share_loop _ _ _ _ cs ss (List.replicate ss.length 0) n _ _ hl hs (by simp) hc h1 (by omega) fun os x1 x2 x4 x5 v l r => ?_
  exact q os v l (by rw [r])
def sp_number_of : FS := fun ds Q _ => ∃ (m m2 : Nat) (cs hs ss os : List Nat), ds = [.lst m (dNs cs), .lst m2 (dNs hs)] ∧ Shd ss cs os hs ∧ ss.length ≤ 8 ∧ ss.sum ≤ 40 ∧ Q (.d (.int (rk ss os : Nat)))
def r_number_of_e1 (Wz : WZ) : ZT :=
  (zCall sp_many W0 (zaCons (zVar 3) zaNil))
def r_number_of_b2 (Wz : WZ) : ZTS :=
  (zSeq (zSet 4 (zBin zAddC (zVar 4) (zCall sp_ways_with Wz (zaCons (zVar 2) (zaCons (zVar 6) zaNil)))))
  (zSet 6 (zBin zAddC (zVar 6) (zC (.int 1)))))
def r_number_of_b1 (Wz : WZ) : ZTS :=
  (zSeq (zSet 6 (zC (.int 0)))
  (zSeq (zWhile (zT (zBin zEqC (zBin zBAndC (zBin zShrC (zBin zIxC (zVar 1) (zVar 6)) (zVar 5)) (zC (.int 1))) (zC (.int 0)))) (r_number_of_b2 Wz))
  (zAsg (zBin zSubC (zBin zIxC (zVar 2) (zVar 6)) (zC (.int 1))) (gSubL (zVar 2) (zVar 6)))))
def r_number_of (Wz : WZ) : ZTS :=
  (zSeq (zSet 2 (zLcV 1 (gN 3) zYes (r_number_of_e1 W0) [3]))
  (zSeq (zSet 4 (zC (.int 0)))
  (zSeq (zFor (ziSeq (zVar 0)) (gN 5) (r_number_of_b1 Wz))
  (zRet (zVar 4)))))
theorem number_loop (Wz : WZ) (nx : SS → Prop) (rt : RV → SS → Prop) (x0 x3 : Option O) (m2 : Nat) (hs : List Nat) : ∀ (cs ss os : List Nat) (num : Nat) (x5 x6 : Option O), ss.length ≤ 8 → ss.sum ≤ 40 → hs.length = ss.length → cs.length = os.length → Vd ss os →
    (∀ (t c o : Nat), cs[t]? = some c → os[t]? = some o → ∀ j, j < hs.length → (hs.getD j 0).testBit c = decide (j = o)) →
    (∀ x2 x5 x6, nx [x0, some (.pure (.lst m2 (dNs hs))), x2, x3, some (.pure (.int (num + rk ss os : Nat))), x5, x6]) →
    zForL (gN 5) (r_number_of_b1 Wz) nx rt (dNs cs) [x0, some (.pure (.lst m2 (dNs hs))), some (.lst (dNs ss)), x3, some (.pure (.int (num : Nat))), x5, x6]
  | [], ss, [], num, x5, x6, hl, hs40, hh, hlen, hv, hb, q => q _ _ _
  | c :: cs, ss, o :: os, num, x5, x6, hl, hs40, hh, hlen, hv, hb, q => by
    obtain ⟨v1, v2, v3⟩ := hv
    have hd := dec_sum ss o v2
    have hb0 := hb 0 c o rfl rfl
    show zForL (gN 5) (r_number_of_b1 Wz) nx rt (D.int (c : Nat) :: dNs cs) _
    walk_at "zz"
    refine while_W (fun m st => ∃ seat : Nat, m = ss.length - seat ∧ seat ≤ o ∧ st = [x0, some (.pure (.lst m2 (dNs hs))), some (.lst (dNs ss)), x3, some (.pure (.int ((num + off 0 ss seat : Nat) : Int))), some (.pure (.int (c : Nat))), some (.pure (.int (seat : Nat)))]) ss.length ⟨0, rfl, Nat.zero_le _, rfl⟩ ?_
    rintro m st ⟨seat, hm, ho, rfl⟩
    have hseat : seat < ss.length := by omega
    have hsu := off_succ 0 ss seat
    walk_at "zz"
    refine ⟨_, at_N (by rw [hh]; exact hseat), ?_⟩
    walk_at "zz"
    have hbs := hb0 seat (by omega)
    have tb : (hs.getD seat 0).testBit c = decide (hs.getD seat 0 / 2 ^ c % 2 = 1) := Nat.testBit_eq_decide_div_mod_eq
    have e1 : Builtin.bitAnd (((hs.getD seat 0 : Nat) : Int) / 2 ^ ((c : Int)).toNat) 1 = ((hs.getD seat 0 / 2 ^ c % 2 : Nat) : Int) := by
      rw [← bitAnd_one, Int.natCast_ediv, Int.natCast_pow, Int.toNat_natCast]; rfl
    rw [e1]
    refine ⟨fun h => ?_, fun h => ?_⟩
    · have h : hs.getD seat 0 / 2 ^ c % 2 = 0 := Int.ofNat_inj.mp (bT h)
      have hne : seat ≠ o := fun e => by
        rw [hbs, decide_eq_true e, h] at tb; exact absurd tb (by decide)
      walk_at "zz"
      refine ⟨1, ss, seat, rfl, hseat, hl, hs40, ?_⟩
      walk_at "zz"
      refine ⟨ss.length - (seat + 1), by omega, seat + 1, rfl, by omega, ?_⟩
      rw [hsu, ← Nat.add_assoc, Int.natCast_add (num + off 0 ss seat)]; rfl
    · have h : ¬ hs.getD seat 0 / 2 ^ c % 2 = 0 := fun e => bF h (by rw [e]; rfl)
      have he : seat = o := by
        rw [hbs] at tb
        have : hs.getD seat 0 / 2 ^ c % 2 = 1 := by omega
        rw [decide_eq_true this] at tb
        exact of_decide_eq_true tb
      subst he
      walk_at "zz"
      refine ⟨_, at_N hseat, ?_⟩
      walk_at "zz"
      refine ⟨seat, Sd.mk (ix_N (by rw [dNs_len]; exact hseat)), ?_⟩
      have := number_loop Wz nx rt x0 x3 m2 hs cs (dec ss seat) os (num + off 0 ss seat) (some (.pure (.int (c : Nat)))) (some (.pure (.int (seat : Nat)))) (by rw [dec_len]; exact hl) (by omega) (by rw [dec_len]; exact hh)
        (by simpa using hlen) v3 (fun t c' o' e1 e2 => hb (t + 1) c' o' (by simpa using e1) (by simpa using e2)) (fun y2 y5 y6 => by rw [Nat.add_assoc]; exact q y2 y5 y6)
      unfold dec at this
      rw [← dNs_set, Int.ofNat_sub (show 1 ≤ ss.getD seat 0 by omega)] at this
      exact this
theorem read_number_of (ds : List D) (Q : RV → Prop) (E : EZ) (hs : sp_number_of ds Q E) : r_number_of (fun cls ns es _ => E cls ns es) ⟨fun _ => Q (.d .non), retK Q, fun _ => False, fun _ => False⟩ (args ds 7) := by
  obtain ⟨m, m2, cs, hs, ss, os, rfl, sh, hl, h40, q⟩ := hs
  have hhl := sh.hl
  walk_at "zz"
  refine lcE dN (fun h : Nat => D.int ((cards h).length : Nat)) _ hs [] (by simp; omega) (fun h hm rest acc ha nx => ?_) ?_
  · have ha2 : acc.length < sizeLine := by rw [sizeLine_eq]; omega
    unfold dN
    walk_at "zz"
    refine ⟨h, rfl, sh.lt h hm, ?_⟩
    walk_at "zz"
    exact nx
  · have e : hs.map (fun h : Nat => D.int ((cards h).length : Nat)) = dNs ss := by
      rw [← sh.mn]; unfold dNs dN; rw [List.map_map]; rfl
    rw [List.nil_append, e]
    walk_at "zz"
    refine number_loop _ _ _ _ _ m2 hs cs ss os 0 _ _ hl h40 sh.hl sh.l sh.v sh.bt fun x2 x5 x6 => ?_
    rw [Nat.zero_add]
    exact q
/-! ### the law's sizes and cards -/
/-- a comprehension over a range whose items are drawn -/
theorem lcR {α : Type} {g : ZG1} {tt : ZTB} {t : ZT} {vs : List Nat} {K : List D → SS → Prop} (f : α → D) (P : Nat → α → Prop) (N : Nat) (s0 : SS) (hN : N ≤ 1000)
    (st : ∀ i, i < N → ∀ rest acc, acc.length < 1000 → (∀ a, P i a → zLcL g tt t vs K rest (acc ++ [f a]) s0) → zLcL g tt t vs K (D.int (i : Nat) :: rest) acc s0)
    (q : ∀ l : List α, l.length = N → (∀ i a, l[i]? = some a → P i a) → K (l.map f) s0) : zLcL g tt t vs K (dNs (List.range N)) [] s0 := by
  have gen : ∀ (n i : Nat) (l : List α), i + n = N → l.length = i → (∀ j a, l[j]? = some a → P j a) → zLcL g tt t vs K (dNs (List.range' i n)) (l.map f) s0 := by
    intro n
    induction n with
    | zero => exact fun i l e hl hp => q l (by omega) hp
    | succ n ih =>
      intro i l e hl hp
      refine st i (by omega) _ _ (by rw [List.length_map]; omega) fun a ha => ?_
      have := ih (i + 1) (l ++ [a]) (by omega) (by rw [List.length_append, hl]; rfl) (fun j b hj => ?_)
      · rw [List.map_append] at this; exact this
      · by_cases e2 : j < l.length
        · rw [List.getElem?_append_left e2] at hj; exact hp j b hj
        · rw [List.getElem?_append_right (by omega)] at hj
          cases e3 : j - l.length with
          | zero =>
            rw [e3] at hj
            simp at hj; subst hj
            rw [show j = i by omega]; exact ha
          | succ k => rw [e3] at hj; simp at hj
  have := gen N 0 [] (by omega) rfl (fun j a h => by simp at h)
  rw [← List.range_eq_range'] at this
  exact this
theorem k20s {k : Int} (h : k < 1010) : k < 2 ^ 20 := by
  have : (1010 : Int) < 2 ^ 20 := by decide
  omega
def sp_law_sizes : FS := fun ds Q _ => ∃ (m : Nat) (ns : List Int) (b : Nat), ds = [.lst m (ns.map .int), .int (b : Nat)] ∧ (ns.length : Int) ≤ 63 ∧ b ≤ 9 ∧
  ∀ ss : List Nat, 0 < ss.length → ss.length ≤ 5 → (∀ s ∈ ss, s ≤ b) → (ss.length = 5 → ∀ s ∈ ss, s ≤ 6) → Q (.new (.lst (dNs ss)))
def r_law_sizes_e1 (Wz : WZ) : ZT :=
  (zBin zModC (zBin zFdivC (zCall sp_law_mixed W0 (zaCons (zVar 0) (zaCons (zBin zAddC (zC (.int 1)) (zVar 3)) zaNil))) (zC (.int 3))) (zBin zAddC (zVar 1) (zC (.int 1))))
def r_law_sizes (Wz : WZ) : ZTS :=
  (zSeq (zSet 2 (zBin zAddC (zC (.int 1)) (zBin zModC (zCall sp_law_mixed Wz (zaCons (zVar 0) (zaCons (zC (.int 0)) zaNil))) (zC (.int 5)))))
  (zSeq (zIfS (zT (zBin zEqC (zVar 2) (zC (.int 5)))) (zSet 1 (zCB zMinC (zaCons (zVar 1) (zaCons (zC (.int 6)) zaNil)))) zNext)
  (zRet (zLc (ziR1 (zaCons (zVar 2) zaNil)) (gN 3) zYes (r_law_sizes_e1 W0) [3]))))
theorem read_law_sizes (ds : List D) (Q : RV → Prop) (E : EZ) (hs : sp_law_sizes ds Q E) : r_law_sizes (fun cls ns es _ => E cls ns es) ⟨fun _ => Q (.d .non), retK Q, fun _ => False, fun _ => False⟩ (args ds 4) := by
  obtain ⟨m, ns, b, rfl, hl, hb, q⟩ := hs
  have fin : ∀ (b n : Nat) (x1 : Option O), b ≤ 9 → 0 < n → n ≤ 5 → x1 = some (.pure (.int (b : Nat))) → (∀ ss : List Nat, ss.length = n → (∀ s ∈ ss, s ≤ b) → Q (.new (.lst (dNs ss)))) →
      zLcL (gN 3) zYes (r_law_sizes_e1 W0) [3] (fun acc s' => retK Q (.new (.lst acc)) s') (dNs (List.range n)) [] [some (.pure (.lst m (ns.map .int))), x1, some (.pure (.int (n : Nat))), none] := by
    rintro b n x1 hb n0 n5 rfl q
    refine lcR dN (fun _ s => s ≤ b) n _ (by omega) (fun i hi rest acc ha nx => ?_) (fun l hl hp => ?_)
    · have ha2 : acc.length < sizeLine := by rw [sizeLine_eq]; omega
      walk_at "zz"
      refine ⟨m, ns, 1 + (i : Nat), rfl, hl, by omega, k20s (by omega), fun r r0 _ => ?_⟩
      walk_at "zz"
      have h0 := Int.emod_nonneg (r / 3) (show (b : Int) + 1 ≠ 0 by omega)
      have h1 := Int.emod_lt_of_pos (r / 3) (show (0 : Int) < (b : Int) + 1 by omega)
      have := nx (r / 3 % ((b : Int) + 1)).toNat (by omega)
      unfold dN at this
      rw [Int.toNat_of_nonneg h0] at this
      exact this
    · show Q _
      exact q l hl fun s hs => by
        obtain ⟨i, hi⟩ := List.getElem?_of_mem hs
        exact hp i s hi
  walk_at "zz"
  refine ⟨m, ns, 0, rfl, hl, by decide, by decide, fun r r0 _ => ?_⟩
  have h0 := Int.emod_nonneg r (show (5 : Int) ≠ 0 by decide)
  have h1 := Int.emod_lt_of_pos r (show (0 : Int) < 5 by decide)
  obtain ⟨n, hn⟩ : ∃ n : Nat, 1 + r % 5 = (n : Nat) := ⟨(1 + r % 5).toNat, by omega⟩
  walk_at "zz"
  show Br (D.eq (.int (1 + r % 5)) (.int 5)) _ _
  rw [hn]
  refine ⟨fun h => ?_, fun h => ?_⟩
  · have h := bT h
    walk_at "zz"
    obtain ⟨b2, hb2, l1, l2⟩ : ∃ b2 : Nat, (if (6 : Int) < (b : Int) then (6 : Int) else (b : Int)) = (b2 : Nat) ∧ b2 ≤ b ∧ b2 ≤ 6 := by
      by_cases e : (6 : Int) < b
      · exact ⟨6, by rw [if_pos e]; rfl, by omega, by decide⟩
      · exact ⟨b, by rw [if_neg e], by omega, by omega⟩
    refine .inr ⟨(b : Int), 6, rfl, ?_⟩
    rw [hb2]
    walk_at "zz"
    rw [rng0N]
    exact fin b2 n _ (by omega) (by omega) (by omega) rfl fun ss h1 h2 => q ss (by omega) (by omega) (fun s hs => Nat.le_trans (h2 s hs) l1) fun _ s hs => Nat.le_trans (h2 s hs) l2
  · have h := bF h
    walk_at "zz"
    rw [rng0N]
    exact fin b n _ (by omega) (by omega) (by omega) rfl fun ss h1 h2 => q ss (by omega) (by omega) h2 fun e => absurd (h1.symm.trans e) (by omega)
def sp_law_pack : FS := fun ds Q _ => ∃ (m : Nat) (ns : List Int) (k : Nat), ds = [.lst m (ns.map .int), .int (k : Nat)] ∧ (ns.length : Int) ≤ 63 ∧ k ≤ 32 ∧
  ∀ cs : List Nat, cs.length = k → cs.Nodup → (∀ c ∈ cs, c < 32) → Q (.new (.lst (dNs cs)))
def r_law_pack_e1 (Wz : WZ) : ZT :=
  (zTup (zdCons (zBin zModC (zCall sp_law_mixed W0 (zaCons (zVar 0) (zaCons (zBin zAddC (zC (.int 100)) (zVar 3)) zaNil))) (zC (.int 10007))) (zdCons (zVar 3) zdNil)))
def r_law_pack_e2 (Wz : WZ) : ZT :=
  (zBin zIxC (zVar 4) (zC (.int 1)))
def r_law_pack (Wz : WZ) : ZTS :=
  (zSeq (zSet 2 (zCB zSortedPC (zaCons (zLc (ziR1 (zaCons (zC (.int 32)) zaNil)) (gN 3) zYes (r_law_pack_e1 W0) [3]) zaNil)))
  (zRet (zLc (ziSeq (zSl (zVar 2) zoN (zoS (zVar 1)))) (gN 4) zYes (r_law_pack_e2 W0) [4])))
theorem read_law_pack (ds : List D) (Q : RV → Prop) (E : EZ) (hs : sp_law_pack ds Q E) : r_law_pack (fun cls ns es _ => E cls ns es) ⟨fun _ => Q (.d .non), retK Q, fun _ => False, fun _ => False⟩ (args ds 5) := by
  obtain ⟨m, ns, k, rfl, hl, hk, q⟩ := hs
  obtain ⟨R, hR⟩ : ∃ R, R = List.range 32 := ⟨_, rfl⟩
  have eR : rngD 0 (32 : Int).toNat = dNs R := by rw [hR]; exact rng0N 32
  conv => whnf
  refine And.intro (Sd.mk (by decide)) ?_
  show fc _ _
  rw [eR]
  conv => whnf
  rw [hR]
  refine lcR dTI (fun i (a : List Int) => ∃ x : Int, a = [x, (i : Int)] ∧ 0 ≤ x ∧ x < 10007) 32 _ (by decide) (fun i hi rest acc ha nx => ?_) (fun ps hl2 hp => ?_)
  · have ha2 : acc.length < sizeLine := by rw [sizeLine_eq]; omega
    walk_at "zz"
    refine ⟨m, ns, 100 + (i : Nat), rfl, hl, by omega, k20s (by omega), fun r r0 _ => ?_⟩
    walk_at "zz"
    exact nx [r % 10007, (i : Int)] ⟨_, rfl, Int.emod_nonneg _ (by decide), Int.emod_lt_of_pos _ (by decide)⟩
  conv => whnf
  refine ⟨0, ps, 10007, rfl, Sd.mk (by omega), fun p hm => ?_, fun qs hq _ => ?_⟩
  · obtain ⟨i, hi⟩ := List.getElem?_of_mem hm
    obtain ⟨x, rfl, x0, x1⟩ := hp i p hi
    have i32 : i < 32 := by rw [← hl2]; exact (List.getElem?_eq_some_iff.mp hi).1
    refine ⟨rfl, fun y hy => ?_⟩
    rcases List.mem_cons.mp hy with e | hy
    · subst e; exact ⟨x0, x1⟩
    · rcases List.mem_cons.mp hy with e | hy
      · subst e; omega
      · simp at hy
  have snd : ps.map (fun p => (p.getD 1 0).toNat) = List.range 32 := by
    refine List.ext_getElem? fun i => ?_
    rw [List.getElem?_map]
    by_cases hi : i < 32
    · have hi2 : i < ps.length := by omega
      obtain ⟨x, e, _⟩ := hp i ps[i] (List.getElem?_eq_getElem hi2)
      rw [List.getElem?_eq_getElem hi2, Option.map_some, e, List.getElem?_range hi]
      simp
    · rw [List.getElem?_eq_none (by omega), List.getElem?_eq_none (by simp; omega)]; rfl
  have two : ∀ p ∈ qs, ∃ x : Int, ∃ c : Nat, p = [x, (c : Int)] := fun p hm => by
    obtain ⟨i, hi⟩ := List.getElem?_of_mem (hq.mem_iff.mp hm)
    obtain ⟨x, e, _⟩ := hp i p hi
    exact ⟨x, i, e⟩
  have per : (qs.map (fun p => (p.getD 1 0).toNat)).Perm (List.range 32) := by rw [← snd]; exact hq.map _
  have lq : qs.length = 32 := by rw [hq.length_eq, hl2]
  walk_at "zz"
  rw [cut_map, cut_hi]
  refine lcE dTI (fun p : List Int => D.int ((p.getD 1 0).toNat : Nat)) _ (qs.take k) [] (by simp; omega) (fun p hm rest acc ha nx => ?_) ?_
  · obtain ⟨x, c, rfl⟩ := two p (List.mem_of_mem_take hm)
    have ha2 : acc.length < sizeLine := by rw [sizeLine_eq]; omega
    unfold dTI
    walk_at "zz"
    exact nx
  · rw [List.nil_append]
    have e : (qs.take k).map (fun p : List Int => D.int ((p.getD 1 0).toNat : Nat)) = dNs ((qs.map (fun p => (p.getD 1 0).toNat)).take k) := by
      unfold dNs dN; rw [← List.map_take, List.map_map]; rfl
    rw [e]
    refine q _ (by rw [List.length_take, List.length_map]; omega) ((List.take_sublist _ _).nodup (per.nodup_iff.mpr List.nodup_range)) fun c hc => ?_
    exact List.mem_range.mp (per.mem_iff.mp (List.mem_of_mem_take hc))
/-! more of lists of numbers -/
theorem count_nat (l : List Nat) (i : Nat) : (l.map Int.ofNat).count (i : Int) = l.count i := by
  induction l with
  | nil => rfl
  | cons a l ih =>
    rw [List.map_cons, List.count_cons, List.count_cons, ih]
    congr 1
    by_cases e : a = i
    · subst e; simp
    · have e1 : ((Int.ofNat a) == ((i : Nat) : Int)) = false := beq_false_of_ne fun q => e (Int.ofNat_inj.mp q)
      have e2 : (a == i) = false := beq_false_of_ne e
      rw [e1, e2]
theorem dNs_snoc (l : List Nat) (c : Nat) : dNs l ++ [D.int (c : Nat)] = dNs (l ++ [c]) := by unfold dNs; rw [List.map_append]; rfl
theorem idx_N : ∀ (l : List Nat) (x : Nat), x ∈ l → D.idx (.int (x : Nat)) (dNs l) = some (l.idxOf x)
  | y :: l, x, h => by
    show (match D.eq (.int (y : Nat)) (.int (x : Nat)) with | true => some 0 | false => (D.idx (.int (x : Nat)) (dNs l)).map (· + 1)) = _
    rw [eq_N]
    by_cases e : y = x
    · subst e; simp
    · have hm : x ∈ l := by
        rcases List.mem_cons.mp h with h | h
        · exact absurd h.symm e
        · exact h
      rw [decide_eq_false e, idx_N l x hm, List.idxOf_cons]
      have : (y == x) = false := by simpa using e
      rw [this]; rfl
theorem fl_N (l : List Nat) : (dNs l).all D.fl = true := by
  rw [List.all_eq_true]; intro d hd
  obtain ⟨x, _, rfl⟩ := List.mem_map.mp hd
  rfl
theorem nbs_N : ∀ l : List Nat, D.nbs (dNs l) = true
  | [] => rfl
  | n :: l => nbs_N l
theorem nb_N (l : List Nat) : (RV.new (O.lst (dNs l))).nb = true := nbs_N l
theorem add_or : ∀ (c a : Nat), a.testBit c = false → a ||| 2 ^ c = a + 2 ^ c
  | 0, a, h => by
    have h : a % 2 ≠ 1 := by simpa [Nat.testBit_zero] using h
    have h1 : (a ||| 2 ^ 0) / 2 = a / 2 := by rw [Nat.or_div_two]; simp
    have h2 : (a ||| 2 ^ 0) % 2 = 1 := by
      have := Nat.testBit_or a (2 ^ 0) 0
      rw [Nat.testBit_zero, Nat.testBit_two_pow] at this
      simpa using this
    show _ = a + 1
    omega
  | c + 1, a, h => by
    rw [Nat.testBit_succ] at h
    have ih := add_or c (a / 2) h
    have h1 : (a ||| 2 ^ (c + 1)) / 2 = a / 2 ||| 2 ^ c := by
      rw [Nat.or_div_two, Nat.pow_succ, Nat.mul_div_cancel _ (by decide)]
    have h2 : (a ||| 2 ^ (c + 1)) % 2 = a % 2 := by
      have := Nat.testBit_or a (2 ^ (c + 1)) 0
      rw [Nat.testBit_zero, Nat.testBit_zero, Nat.testBit_two_pow] at this
      have e : decide (c + 1 = 0) = false := by simp
      rw [e, Bool.or_false] at this
      have := decide_eq_decide.mp this
      omega
    rw [ih] at h1
    rw [Nat.pow_succ] at *
    omega
theorem zeros (ss : List Nat) : (List.replicate ((((dNs ss).length : Nat) : Int)).toNat [D.int 0]).flatten = dNs (List.replicate ss.length 0) := by
  rw [Int.toNat_natCast, dNs_len]
  unfold dNs dN
  rw [List.map_replicate]
  generalize ss.length = k
  induction k with
  | zero => rfl
  | succ k ih => rw [List.replicate_succ, List.flatten_cons, ih, List.replicate_succ]; rfl
/-! ### refusals -/
def sp_law_other : FS := fun ds Q _ => ds = [.exc c_NoShare [] []] ∧ Q (.d (.bl false))
def r_law_other (Wz : WZ) : ZTS :=
  (zRet (zOrV (zIsO [(c_NoShare, true)] [(c_NoShare, (.o c_NoDeal))] [(.o c_NoDeal)] (zVar 0)) (zIsO [(c_NoShare, true)] [(c_NoShare, (.o c_NoHand))] [(.o c_NoHand)] (zVar 0))))
theorem read_law_other (ds : List D) (Q : RV → Prop) (E : EZ) (hs : sp_law_other ds Q E) : r_law_other (fun cls ns es _ => E cls ns es) ⟨fun _ => Q (.d .non), retK Q, fun _ => False, fun _ => False⟩ (args ds 1) := by
  obtain ⟨rfl, q⟩ := hs
  walk_at "zz"
  exact q
def sp_law_refusal : FS := fun ds Q _ => ds = [.exc c_NoShare [] []] ∧ Q (.d (.bl true))
def r_law_refusal (Wz : WZ) : ZTS :=
  (zSeq (zIfS (zOr (zT (zBin zIsC (zVar 0) (zC .non))) (zNot (zT (zIsO [(c_NoShare, true)] [(c_NoShare, (.o c_NoShare))] [(.o c_NoShare)] (zVar 0))))) (zRet (zC (.bl false))) zNext)
  (zRet (zAndV (zIsO [(c_NoShare, true)] [(c_NoShare, (.t "ValueError"))] [(.t "ValueError")] (zVar 0)) (zNotV (zCall sp_law_other Wz (zaCons (zVar 0) zaNil))))))
theorem read_law_refusal (ds : List D) (Q : RV → Prop) (E : EZ) (hs : sp_law_refusal ds Q E) : r_law_refusal (fun cls ns es _ => E cls ns es) ⟨fun _ => Q (.d .non), retK Q, fun _ => False, fun _ => False⟩ (args ds 1) := by
  obtain ⟨rfl, q⟩ := hs
  walk_at "zz"
  refine ⟨rfl, ?_⟩
  walk_at "zz"
  exact q
def sp_law_refused : FS := fun ds Q _ => ∃ (m m2 : Nat) (cs ss : List Nat) (num : Int), ds = [.lst m (dNs cs), .lst m2 (dNs ss), .int num] ∧ (∀ c ∈ cs, c ≤ 1000) ∧ ss.length ≤ 8 ∧ ss.sum ≤ 40 ∧ ¬ ShareOk cs ss num ∧ Q (.d (.bl true))
def r_law_refused_y1 (Wz : WZ) : ZTS :=
  (zDrop (zCall sp_share Wz (zaCons (zCB zListC (zaCons (zVar 0) zaNil)) (zaCons (zCB zListC (zaCons (zVar 1) zaNil)) (zaCons (zVar 2) zaNil)))))
def r_law_refused (Wz : WZ) : ZTS :=
  (zSeq (zSet 3 (zC .non))
  (zSeq (zTry [c_NoShare] c_TrickError 4 r_law_refused_y1 (zSet 3 (zVar 4)) Wz)
  (zRet (zCall sp_law_refusal Wz (zaCons (zVar 3) zaNil)))))
theorem read_law_refused (ds : List D) (Q : RV → Prop) (E : EZ) (hs : sp_law_refused ds Q E) : r_law_refused (fun cls ns es _ => E cls ns es) ⟨fun _ => Q (.d .non), retK Q, fun _ => False, fun _ => False⟩ (args ds 5) := by
  obtain ⟨m, m2, cs, ss, num, rfl, hc, hl, h40, no, q⟩ := hs
  walk_at "zz"
  refine ⟨0, 0, cs, ss, num, rfl, rfl, hc, hl, h40, fun ok => absurd ok no, fun _ => ?_⟩
  walk_at "zz"
  refine ⟨rfl, ?_⟩
  walk_at "zz"
  exact q
/-! ### whom each card goes to -/
theorem filt_one (o : Nat) : ∀ n, (List.range n).filter (fun j => decide (j = o)) = if o < n then [o] else []
  | 0 => rfl
  | n + 1 => by
    rw [List.range_succ, List.filter_append, filt_one o n]
    by_cases e : n = o
    · subst e
      rw [if_neg (by omega), if_pos (by omega)]
      simp
    · have : List.filter (fun j => decide (j = o)) [n] = [] := by simp [e]
      rw [this, List.append_nil]
      by_cases q : o < n
      · rw [if_pos q, if_pos (by omega)]
      · rw [if_neg q, if_neg (by omega)]
theorem sum_set : ∀ (l : List Nat) (i v : Nat), i < l.length → (l.set i v).sum + l.getD i 0 = l.sum + v
  | a :: l, 0, v, _ => by
    show (v :: l).sum + a = _
    rw [List.sum_cons, List.sum_cons]; omega
  | a :: l, i + 1, v, h => by
    have := sum_set l i v (by simpa using h)
    show (a :: l.set i v).sum + l.getD i 0 = _
    rw [List.sum_cons, List.sum_cons]; omega
theorem place_sum : ∀ (cs os hs : List Nat), cs.length = os.length → cs.Nodup → (∀ c ∈ cs, ∀ i, (hs.getD i 0).testBit c = false) → (∀ o ∈ os, o < hs.length) → (place hs cs os).sum = hs.sum + (cs.map (2 ^ ·)).sum
  | [], [], hs, _, _, _, _ => by simp [place]
  | c :: cs, o :: os, hs, hl, nd, hc, ho => by
    have ho1 := ho o List.mem_cons_self
    have hb1 := hc c List.mem_cons_self
    obtain ⟨nd1, nd2⟩ := List.nodup_cons.mp nd
    show (place (hs.set o (hs.getD o 0 ||| 2 ^ c)) cs os).sum = _
    rw [place_sum cs os _ (by simpa using hl) nd2 (fun x hx i => ?_) (fun x hx => by rw [List.length_set]; exact ho x (List.mem_cons_of_mem _ hx)), List.map_cons, List.sum_cons]
    · have := sum_set hs o (hs.getD o 0 ||| 2 ^ c) ho1
      rw [add_or c _ (hb1 o)] at this ⊢
      omega
    · rw [set_get _ _ _ _ ho1]
      have hx2 := hc x (List.mem_cons_of_mem _ hx)
      by_cases e : i = o
      · subst e
        rw [if_pos rfl, Nat.testBit_or, hx2 i, Nat.testBit_two_pow]
        have : c ≠ x := fun q => nd1 (q ▸ hx)
        simp [this]
      · rw [if_neg e]; exact hx2 i
theorem rk_lex : ∀ (os os' ss : List Nat), Vd ss os → Vd ss os' → os.length = os'.length → rk ss os < rk ss os' → HT.lexLt (os.map Int.ofNat) (os'.map Int.ofNat) = true
  | [], [], ss, _, _, _, h => absurd h (Nat.lt_irrefl _)
  | o :: os, o' :: os', ss, ⟨h1, h2, h3⟩, ⟨g1, g2, g3⟩, hl, h => by
    rw [List.map_cons, List.map_cons, HT.lexLt_cons]
    have h : off 0 ss o + rk (dec ss o) os < off 0 ss o' + rk (dec ss o') os' := h
    by_cases e : o = o'
    · subst e
      rw [if_pos rfl]
      exact rk_lex os os' (dec ss o) h3 g3 (by simpa using hl) (by omega)
    · rw [if_neg (show ¬ Int.ofNat o = Int.ofNat o' from fun q => e (Int.ofNat_inj.mp q))]
      refine decide_eq_true (Int.ofNat_lt.mpr ?_)
      rcases Nat.lt_or_ge o o' with q | q
      · exact q
      · have b := rk_lt g3
        have w : Wt 0 ss o' = Wy (dec ss o') := by unfold Wt Wy; rw [if_neg g2]
        have m := off_mono 0 ss (m := o' + 1) (n := o) (by omega)
        rw [off_succ] at m
        omega
theorem rk_inj {os os' ss : List Nat} (h : Vd ss os) (h' : Vd ss os') (hl : os.length = os'.length) (e : rk ss os = rk ss os') : os = os' := by
  have a := Ls_rk h
  have b := Ls_rk h'
  rw [← hl, ← e, a] at b
  exact Option.some.inj b
def sp_law_owners : FS := fun ds Q _ => ∃ (m m2 m3 : Nat) (cs ss hs os : List Nat), ds = [.lst m (dNs cs), .lst m2 (dNs ss), .lst m3 (dNs hs)] ∧ Shd ss cs os hs ∧ hs.sum = (cs.map (2 ^ ·)).sum ∧ (∀ c ∈ cs, c ≤ 1000) ∧ hs.length ≤ 10 ∧ cs.length ≤ 100 ∧ Q (.new (.lst (dNs os)))
def r_law_owners_e1 (Wz : WZ) : ZT :=
  (zCall sp_law_whole W0 (zaCons (zVar 3) zaNil))
def r_law_owners_e2 (Wz : WZ) : ZT :=
  (zBin zShlC (zC (.int 1)) (zVar 4))
def r_law_owners_b1 (Wz : WZ) : ZTS :=
  (zSeq (zSet 6 (zLc (ziR1 (zaCons (zCB zLenC (zaCons (zVar 2) zaNil)) zaNil)) (gN 7) (zT (zBin zEqC (zBin zModC (zBin zFdivC (zBin zIxC (zVar 2) (zVar 7)) (zBin zShlC (zC (.int 1)) (zVar 4))) (zC (.int 2))) (zC (.int 1)))) (zVar 7) [7]))
  (zSeq (zIfS (zT (zBin zNeC (zCB zLenC (zaCons (zVar 6) zaNil)) (zC (.int 1)))) (zRet (zC .non)) zNext)
  (zDrop (zMet zAppendC 5 (zdCons (zBin zIxC (zVar 6) (zC (.int 0))) zdNil)))))
def r_law_owners_e4 (Wz : WZ) : ZT :=
  (zMq 0 zCountC (zVar 5) (zaCons (zVar 7) zaNil))
def r_law_owners (Wz : WZ) : ZTS :=
  (zSeq (zIfS (zOr (zNot (zT (zIsi .list (zVar 2)))) (zOr (zT (zBin zNeC (zCB zLenC (zaCons (zVar 2) zaNil)) (zCB zLenC (zaCons (zVar 1) zaNil)))) (zNot (zT (zCB zAllC (zaCons (zLcV 2 (gN 3) zYes (r_law_owners_e1 W0) [3]) zaNil)))))) (zRet (zC .non)) zNext)
  (zSeq (zIfS (zT (zBin zNeC (zCB zSumC (zaCons (zVar 2) zaNil)) (zCB zSumC (zaCons (zLcV 0 (gN 4) zYes (r_law_owners_e2 W0) [4]) zaNil)))) (zRet (zC .non)) zNext)
  (zSeq (zSet 5 (zLst zdNil))
  (zSeq (zFor (ziSeq (zVar 0)) (gN 4) (r_law_owners_b1 Wz))
  (zSeq (zIfS (zT (zBin zNeC (zLc (ziR1 (zaCons (zCB zLenC (zaCons (zVar 1) zaNil)) zaNil)) (gN 7) zYes (r_law_owners_e4 W0) [7]) (zVar 1))) (zRet (zC .non)) zNext)
  (zRet (zVar 5)))))))
theorem owners_loop (Wz : WZ) (nx : SS → Prop) (rt : RV → SS → Prop) (x0 x1 x3 : Option O) (m3 : Nat) (hs : List Nat) (hl : hs.length ≤ 10) : ∀ (cs os acc : List Nat) (x4 x6 : Option O), cs.length = os.length → acc.length + cs.length ≤ 100 → (∀ c ∈ cs, c ≤ 1000) → (∀ o ∈ os, o < hs.length) →
    (∀ (t c o : Nat), cs[t]? = some c → os[t]? = some o → ∀ j, j < hs.length → (hs.getD j 0).testBit c = decide (j = o)) → (∀ x4 x6, nx [x0, x1, some (.pure (.lst m3 (dNs hs))), x3, x4, some (.lst (dNs (acc ++ os))), x6, none]) →
    zForL (gN 4) (r_law_owners_b1 Wz) nx rt (dNs cs) [x0, x1, some (.pure (.lst m3 (dNs hs))), x3, x4, some (.lst (dNs acc)), x6, none]
  | [], [], acc, x4, x6, _, _, _, _, _, q => by
    have := q x4 x6
    rw [List.append_nil] at this
    exact this
  | c :: cs, o :: os, acc, x4, x6, e, ha, hc, ho, hb, q => by
    have ha' : acc.length + (cs.length + 1) ≤ 100 := ha
    have hc1 := hc c List.mem_cons_self
    have ho1 := ho o List.mem_cons_self
    have hb1 := hb 0 c o rfl rfl
    have l1 := dNs_len hs
    have l2 := dNs_len acc
    have sl := sizeLine_eq
    have next := owners_loop Wz nx rt x0 x1 x3 m3 hs hl cs os (acc ++ [o]) (some (.pure (.int (c : Nat)))) (some (.lst (dNs [o]))) (by simpa using e) (by rw [List.length_append]; show acc.length + 1 + _ ≤ _; omega) (fun x hx => hc x (List.mem_cons_of_mem _ hx)) (fun x hx => ho x (List.mem_cons_of_mem _ hx)) (fun t c' o' e1 e2 => hb (t + 1) c' o' (by simpa using e1) (by simpa using e2)) (fun y3 y4 => by rw [List.append_assoc]; exact q y3 y4)
    rw [← dNs_snoc] at next
    have side : CPow 1 (c : Int) := ⟨by omega, by omega, by decide⟩
    show zForL (gN 4) (r_law_owners_b1 Wz) nx rt (D.int (c : Nat) :: dNs cs) _
    walk_at "zz"
    rw [rng0N, l1]
    refine lcG dN dN (fun j => decide (j = o)) _ (List.range hs.length) [] (by simp; omega) (fun i hi rest acc' ha2 n1 n2 => ?_) ?_
    · have hi := List.mem_range.mp hi
      have ha3 : acc'.length < sizeLine := by rw [sizeLine_eq]; omega
      have cd : CDivW ((hs.getD i 0 : Nat) : Int) ((2 ^ c : Nat) : Int) := divW (by have := Nat.two_pow_pos c; omega) (by rw [Int.natCast_pow]; exact Int.lt_of_le_of_lt (pow_le2 hc1) (Int.pow_lt_pow_of_lt (by decide) (by decide)))
      unfold dN
      walk_at "zz"
      refine ⟨_, at_N hi, ?_⟩
      conv => whnf
      refine And.intro (Sd.mk side) ?_
      conv => whnf
      show Sd (CDivW ((hs.getD i 0 : Nat) : Int) (1 * 2 ^ (c : Int).toNat)) ∧ _
      rw [shl_one]
      refine And.intro (Sd.mk cd) ?_
      walk_at "zz"
      have tb : (hs.getD i 0).testBit c = decide (hs.getD i 0 / 2 ^ c % 2 = 1) := Nat.testBit_eq_decide_div_mod_eq
      rw [hb1 i hi] at tb
      have e1 : ((hs.getD i 0 : Nat) : Int) / ((2 ^ c : Nat) : Int) % 2 = ((hs.getD i 0 / 2 ^ c % 2 : Nat) : Int) := by rw [Int.natCast_emod, Int.natCast_ediv]; rfl
      rw [e1]
      refine ⟨fun h => ?_, fun h => ?_⟩
      · have h : hs.getD i 0 / 2 ^ c % 2 = 1 := Int.ofNat_inj.mp (bT h)
        rw [decide_eq_true h] at tb
        have n1 := n1 tb
        walk_at "zz"
        exact n1
      · have h : ¬ hs.getD i 0 / 2 ^ c % 2 = 1 := fun e => bF h (by rw [e]; rfl)
        rw [decide_eq_false h] at tb
        exact n2 tb
    · rw [List.nil_append, filt_one, if_pos ho1]
      walk_at "zz"
      exact next
theorem read_law_owners (ds : List D) (Q : RV → Prop) (E : EZ) (hs : sp_law_owners ds Q E) : r_law_owners (fun cls ns es _ => E cls ns es) ⟨fun _ => Q (.d .non), retK Q, fun _ => False, fun _ => False⟩ (args ds 8) := by
  obtain ⟨m, m2, m3, cs, ss, hs, os, rfl, sh, hsum, hc, hl, hcl, q⟩ := hs
  have l1 := dNs_len hs
  have l2 := dNs_len ss
  have l3 := dNs_len os
  have hhl := sh.hl
  have hol := sh.l
  walk_at "zz"
  refine Br.lF (by rw [l1, l2, hhl, eq_N]; simp) ?_
  walk_at "zz"
  refine lcE dN (fun _ : Nat => D.bl true) _ hs [] (by simp; omega) (fun h _ rest acc ha nx => ?_) ?_
  · have ha2 : acc.length < sizeLine := by rw [sizeLine_eq]; omega
    unfold dN
    walk_at "zz"
    refine ⟨_, rfl, ?_⟩
    walk_at "zz"
    exact nx
  rw [List.nil_append]
  walk_at "zz"
  refine ⟨0, hs.map (fun _ => true), by rw [List.map_map]; rfl, ?_⟩
  have all : (hs.map (fun _ => true)).all id = true := by rw [List.all_eq_true]; intro b hb; obtain ⟨_, _, rfl⟩ := List.mem_map.mp hb; rfl
  rw [all]
  walk_at "zz"
  refine ⟨m3, hs.map Int.ofNat, by rw [dNs_ints], ?_⟩
  rw [sum_nat]
  walk_at "zz"
  refine lcE dN (fun c : Nat => D.int ((2 ^ c : Nat) : Int)) _ cs [] (by simp; omega) (fun c hcm rest acc ha nx => ?_) ?_
  · have ha2 : acc.length < sizeLine := by rw [sizeLine_eq]; omega
    have hc1 := hc c hcm
    have side : CPow 1 (c : Int) := ⟨by omega, by omega, by decide⟩
    rw [← shl_one] at nx
    unfold dN
    conv => whnf
    refine Br.T ?_
    conv => whnf
    refine And.intro (Sd.mk side) ?_
    walk_at "zz"
    exact nx
  rw [List.nil_append]
  walk_at "zz"
  refine ⟨0, (cs.map (2 ^ ·)).map Int.ofNat, by rw [List.map_map, List.map_map]; rfl, ?_⟩
  rw [sum_nat, hsum]
  walk_at "zz"
  refine owners_loop _ _ _ _ _ _ m3 hs hl cs os [] _ _ hol (by show 0 + _ ≤ _; omega) hc (fun o ho => by rw [hhl]; exact Vd_mem sh.v o ho) sh.bt fun x4 x6 => ?_
  rw [List.nil_append]
  walk_at "zz"
  rw [rng0N, l2]
  refine lcE dN (fun j : Nat => D.int ((os.count j : Nat) : Int)) _ (List.range ss.length) [] (by simp; omega) (fun j _ rest acc ha nx => ?_) ?_
  · have ha2 : acc.length < sizeLine := by rw [sizeLine_eq]; omega
    unfold dN
    walk_at "zz"
    refine ⟨1, os.map Int.ofNat, (j : Int), by rw [dNs_ints], ?_⟩
    rw [count_nat]
    walk_at "zz"
    exact nx
  have e1 : (List.range ss.length).map (fun j : Nat => D.int ((os.count j : Nat) : Int)) = dNs ss := by
    refine List.ext_getElem? fun j => ?_
    unfold dNs
    rw [List.getElem?_map, List.getElem?_map]
    by_cases hj : j < ss.length
    · rw [List.getElem?_range hj, List.getElem?_eq_getElem hj, Option.map_some, Option.map_some]
      have := Vd_count sh.v j
      rw [List.getD_eq_getElem?_getD, List.getElem?_eq_getElem hj] at this
      have this : ss[j] = os.count j := this
      rw [← this]; rfl
    · rw [List.getElem?_eq_none (by simpa using hj), List.getElem?_eq_none (by omega)]; rfl
  rw [List.nil_append, e1]
  walk_at "zz"
  refine And.intro (Sd.mk ⟨pls_dNs _ _, pls_dNs _ _⟩) ?_
  conv => whnf
  refine Br.lF (by show (!D.eqs (dNs ss) (dNs ss)) = false; rw [eqs_dNs]; rfl) ?_
  walk_at "zz"
  exact q
/-! ### sizes with one less, added -/
def sp_law_added : FS := fun ds Q _ => ∃ (m : Nat) (ss : List Nat), ds = [.lst m (dNs ss)] ∧ ss.length ≤ 8 ∧ ss.sum ≤ 40 ∧ Q (.d (.int (Wy ss : Nat)))
def r_law_added_e1 (Wz : WZ) : ZT :=
  (zBin zSubC (zBin zIxC (zVar 0) (zVar 3)) (zCB zIntC (zaCons (zBin zEqC (zVar 3) (zVar 2)) zaNil)))
def r_law_added_b1 (Wz : WZ) : ZTS :=
  (zIfS (zT (zBin zGtX (zBin zIxC (zVar 0) (zVar 2)) (zC (.int 0)))) (zSet 1 (zBin zAddC (zVar 1) (zCall sp_ways Wz (zaCons (zLc (ziR1 (zaCons (zCB zLenC (zaCons (zVar 0) zaNil)) zaNil)) (gN 3) zYes (r_law_added_e1 W0) [3]) zaNil)))) zNext)
def r_law_added (Wz : WZ) : ZTS :=
  (zSeq (zIfS (zT (zBin zEqC (zCB zSumC (zaCons (zVar 0) zaNil)) (zC (.int 0)))) (zRet (zC (.int 1))) zNext)
  (zSeq (zSet 1 (zC (.int 0)))
  (zSeq (zFor (ziR1 (zaCons (zCB zLenC (zaCons (zVar 0) zaNil)) zaNil)) (gN 2) (r_law_added_b1 Wz))
  (zRet (zVar 1)))))
theorem added_loop (Wz : WZ) (nx : SS → Prop) (rt : RV → SS → Prop) (m : Nat) (ss : List Nat) (hl : ss.length ≤ 8) (h40 : ss.sum ≤ 40) (q : ∀ x2, nx [some (.pure (.lst m (dNs ss))), some (.pure (.int (off 0 ss ss.length : Nat))), x2, none]) : ∀ (n i : Nat) (x2 : Option O), i + n = ss.length →
    zForL (gN 2) (r_law_added_b1 Wz) nx rt (dNs (List.range' i n)) [some (.pure (.lst m (dNs ss))), some (.pure (.int (off 0 ss i : Nat))), x2, none]
  | 0, i, x2, e => by rw [show i = ss.length by omega]; exact q x2
  | n + 1, i, x2, e => by
    have hi : i < ss.length := by omega
    have hl3 : (dNs ss).length = ss.length := dNs_len ss
    have next := added_loop Wz nx rt m ss hl h40 q n (i + 1) (some (.pure (.int (i : Nat)))) (by omega)
    rw [off_succ] at next
    show zForL (gN 2) (r_law_added_b1 Wz) nx rt (D.int (i : Nat) :: dNs (List.range' (i + 1) n)) _
    walk_at "zz"
    refine ⟨_, at_N hi, ?_⟩
    walk_at "zz"
    refine ⟨fun h => ?_, fun h => ?_⟩
    · have h : 0 < ss.getD i 0 := Int.ofNat_lt.mp (bT h)
      have hz : ss.getD i 0 ≠ 0 := by omega
      have hw : Wt 0 ss i = Wy (dec ss i) := by unfold Wt; rw [if_neg hz]; rfl
      rw [hw, Int.natCast_add] at next
      walk_at "zz"
      rw [rng0N, hl3]
      refine lcE dN (fun k : Nat => D.int (((ss.getD k 0 : Nat) : Int) - if D.eq (.int (k : Nat)) (.int (i : Nat)) = true then 1 else 0)) _ (List.range ss.length) [] (by simp; omega) (fun k hk rest acc ha nx => ?_) ?_
      · have hk := List.mem_range.mp hk
        have ha2 : acc.length < sizeLine := by rw [sizeLine_eq]; omega
        unfold dN
        walk_at "zz"
        refine ⟨_, at_N hk, ?_⟩
        walk_at "zz"
        exact nx
      · rw [List.nil_append, dec_eq ss i hz]
        conv => whnf
        refine ⟨0, dec ss i, rfl, by rw [dec_len]; exact hl, by have := dec_sum ss i hz; omega, ?_⟩
        walk_at "zz"
        exact next
    · have h : ¬ 0 < ss.getD i 0 := fun e => bF h (Int.ofNat_lt.mpr e)
      have hw : Wt 0 ss i = 0 := by unfold Wt; rw [if_pos (by omega)]
      rw [hw, Nat.add_zero] at next
      exact next
theorem read_law_added (ds : List D) (Q : RV → Prop) (E : EZ) (hs : sp_law_added ds Q E) : r_law_added (fun cls ns es _ => E cls ns es) ⟨fun _ => Q (.d .non), retK Q, fun _ => False, fun _ => False⟩ (args ds 4) := by
  obtain ⟨m, ss, rfl, hl, h40, q⟩ := hs
  have hl3 : (dNs ss).length = ss.length := dNs_len ss
  walk_at "zz"
  refine ⟨m, ss.map Int.ofNat, by rw [dNs_ints], ?_⟩
  rw [sum_nat]
  walk_at "zz"
  refine ⟨fun h => ?_, fun h => ?_⟩
  · have h : ss.sum = 0 := Int.ofNat_inj.mp (bT h)
    have : Wy ss = 1 := Wn_zero ss 0 h
    rw [this] at q
    exact q
  · have h : ¬ ss.sum = 0 := fun e => bF h (by rw [e]; rfl)
    rw [Wy_rec (ss := ss) (by omega)] at q
    walk_at "zz"
    rw [rng0N, hl3, List.range_eq_range']
    refine added_loop _ _ _ m ss hl h40 (fun x2 => ?_) ss.length 0 _ (by omega)
    walk_at "zz"
    exact q
/-! ### the law -/
theorem sum_le {b : Nat} : ∀ {ss : List Nat}, (∀ s ∈ ss, s ≤ b) → ss.sum ≤ b * ss.length
  | [], _ => by simp
  | s :: ss, h => by
    have h1 := h s List.mem_cons_self
    have h2 := sum_le (ss := ss) fun x hx => h x (List.mem_cons_of_mem _ hx)
    rw [List.sum_cons, List.length_cons, Nat.mul_succ]; omega
theorem last_of (ss : List Nat) (h : 0 < ss.length) : ∃ init l, ss = init ++ [l] ∧ cutD (dNs ss) none (some (-1)) = dNs init ∧ atI (dNs ss) (-1) = some (.int (l : Nat)) := by
  have ne : ss ≠ [] := fun e => by subst e; simp at h
  refine ⟨ss.dropLast, ss.getLast ne, (List.dropLast_concat_getLast ne).symm, ?_, ?_⟩
  · have e : dNs ss = dNs ss.dropLast ++ [dN (ss.getLast ne)] := by
      have := congrArg dNs (List.dropLast_concat_getLast ne).symm
      rw [this]; unfold dNs; rw [List.map_append]; rfl
    have hl : (dNs ss).length = (dNs ss.dropLast).length + 1 := by rw [e, List.length_append]; rfl
    unfold cutD
    have s1 : HT.sIx (dNs ss).length 0 none = 0 := rfl
    have s2 : HT.sIx (dNs ss).length (dNs ss).length (some (-1)) = (dNs ss.dropLast).length := by
      unfold HT.sIx
      show (if (-1 : Int) < 0 then ((-1 : Int) + ((dNs ss).length : Int)).toNat else min (-1 : Int).toNat (dNs ss).length) = _
      rw [if_pos (by decide)]; omega
    rw [s1, s2, List.drop_zero, Nat.sub_zero, e, List.take_left]
  · have hl : (dNs ss).length = ss.length := dNs_len ss
    have e1 : ixN (dNs ss).length (-1) = some (ss.length - 1) := by
      unfold ixN
      rw [hl]
      first | (rw [if_pos (by decide)]; simp; omega) | (simp; omega)
    unfold atI
    rw [e1]
    show (dNs ss)[ss.length - 1]? = _
    unfold dNs
    rw [List.getElem?_map, ← List.getLast?_eq_getElem?, List.getLast?_eq_some_getLast ne]; rfl
def sp_law : FS := fun ds Q _ => ∃ (m : Nat) (ns : List Int), ds = [.lst m (ns.map .int)] ∧ (m = 0 ∨ m = 2) ∧ ns.length ≤ 63 ∧ Q (.d (.bl true))
def r_law_t14 (Wz : WZ) : ZTS :=
  (zSeq (zIfS (zOr (zNot (zT (zCall sp_law_refused Wz (zaCons (zVar 2) (zaCons (zVar 1) (zaCons (zBin zSubC (zNeg (zC (.int 1))) (zVar 5)) zaNil)))))) (zNot (zT (zCall sp_law_refused Wz (zaCons (zVar 2) (zaCons (zBin zAddC (zSl (zVar 1) zoN (zoS (zNeg (zC (.int 1))))) (zLst (zdCons (zBin zAddC (zBin zIxC (zVar 1) (zNeg (zC (.int 1)))) (zC (.int 1))) zdNil))) (zaCons (zC (.int 0)) zaNil))))))) (zRet (zC (.bl false))) zNext)
  (zRet (zBin zEqC (zCall sp_share Wz (zaCons (zVar 2) (zaCons (zVar 1) (zaCons (zVar 5) zaNil)))) (zVar 7))))
def r_law_t7 (Wz : WZ) : ZTS :=
  (zSeq (zSet 6 (zCB zListC (zaCons (zVar 2) zaNil)))
  (zSeq (zSet 7 (zCall sp_share Wz (zaCons (zVar 6) (zaCons (zVar 3) (zaCons (zVar 5) zaNil)))))
  (zSeq (zSet 8 (zCall sp_law_owners Wz (zaCons (zVar 2) (zaCons (zVar 1) (zaCons (zVar 7) zaNil)))))
  (zSeq (zIfS (zOr (zT (zBin zIsC (zVar 8) (zC .non))) (zOr (zT (zBin zNeC (zVar 6) (zVar 2))) (zT (zBin zNeC (zVar 3) (zVar 1))))) (zRet (zC (.bl false))) zNext)
  (zSeq (zSet 9 (zCall sp_number_of Wz (zaCons (zVar 6) (zaCons (zCB zListC (zaCons (zVar 7) zaNil)) zaNil))))
  (zSeq (zIfS (zOr (zNot (zT (zCall sp_law_whole Wz (zaCons (zVar 9) zaNil)))) (zOr (zT (zBin zNeC (zVar 9) (zVar 5))) (zT (zBin zNeC (zVar 6) (zVar 2))))) (zRet (zC (.bl false))) zNext)
  (zSeq (zIfS (zT (zBin zLtX (zBin zAddC (zVar 5) (zC (.int 1))) (zVar 4))) (zSeq (zSet 10 (zCall sp_law_owners Wz (zaCons (zVar 2) (zaCons (zVar 1) (zaCons (zCall sp_share Wz (zaCons (zVar 2) (zaCons (zVar 1) (zaCons (zBin zAddC (zVar 5) (zC (.int 1))) zaNil)))) zaNil)))))
  (zIfS (zOr (zT (zBin zIsC (zVar 10) (zC .non))) (zNot (zT (zBin zLtX (zVar 8) (zVar 10))))) (zRet (zC (.bl false))) zNext)) (zIfS (zNot (zT (zCall sp_law_refused Wz (zaCons (zVar 2) (zaCons (zVar 1) (zaCons (zBin zAddC (zVar 5) (zC (.int 1))) zaNil)))))) (zRet (zC (.bl false))) zNext))
  (zTail (r_law_t14 Wz)))))))))
def r_law (Wz : WZ) : ZTS :=
  (zSeq (zSet 1 (zCall sp_law_sizes Wz (zaCons (zVar 0) (zaCons (zC (.int 8)) zaNil))))
  (zSeq (zSet 2 (zCall sp_law_pack Wz (zaCons (zVar 0) (zaCons (zCB zSumC (zaCons (zVar 1) zaNil)) zaNil))))
  (zSeq (zSet 3 (zCB zListC (zaCons (zVar 1) zaNil)))
  (zSeq (zSet 4 (zCall sp_ways Wz (zaCons (zVar 3) zaNil)))
  (zSeq (zIfS (zOr (zNot (zT (zCall sp_law_whole Wz (zaCons (zVar 4) zaNil)))) (zOr (zT (zBin zLtX (zVar 4) (zC (.int 1)))) (zOr (zT (zBin zNeC (zVar 3) (zVar 1))) (zT (zBin zNeC (zVar 4) (zCall sp_law_added Wz (zaCons (zVar 1) zaNil))))))) (zRet (zC (.bl false))) zNext)
  (zSeq (zSet 5 (zBin zIxC (zLst (zdCons (zC (.int 0)) (zdCons (zBin zSubC (zVar 4) (zC (.int 1))) zdNil))) (zBin zModC (zCall sp_law_mixed Wz (zaCons (zVar 0) (zaCons (zC (.int 6)) zaNil))) (zC (.int 2)))))
  (zSeq (zIfS (zT (zBin zGtX (zBin zModC (zCall sp_law_mixed Wz (zaCons (zVar 0) (zaCons (zC (.int 7)) zaNil))) (zC (.int 3))) (zC (.int 0)))) (zSet 5 (zBin zModC (zCall sp_law_mixed Wz (zaCons (zVar 0) (zaCons (zC (.int 8)) zaNil))) (zVar 4))) zNext)
  (zTail (r_law_t7 Wz)))))))))
theorem law_end (Q : RV → Prop) (Wz : WZ) (q : Q (.d (.bl true))) (x0 x3 x6 x8 x9 x10 : Option O) (cs ss os : List Nat) (n : Nat) (l0 : 0 < ss.length) (l8 : ss.length ≤ 5) (h33 : ss.sum ≤ 32) (hsum : ss.sum = cs.length) (hn : n < Wy ss) (c32 : ∀ c ∈ cs, c < 32) (v : Vd ss os) (l : os.length = cs.length) (r : rk ss os = n) :
    r_law_t14 Wz ⟨fun _ => Q (.d .non), retK Q, fun _ => False, fun _ => False⟩ [x0, some (.lst (dNs ss)), some (.lst (dNs cs)), x3, some (.pure (.int (Wy ss : Nat))), some (.pure (.int (n : Nat))), x6, some (.lst (dNs (place (List.replicate ss.length 0) cs os))), x8, x9, x10] := by
  have c1000 : ∀ c ∈ cs, c ≤ 1000 := fun c hc => by have := c32 c hc; omega
  have sl := sizeLine_eq
  walk_at "zz"
  refine ⟨1, 1, cs, ss, _, rfl, c1000, by omega, by omega, fun ok => ?_, ?_⟩
  · have h1 := ok.2.1
    exact absurd h1 (by show ¬ 0 ≤ -1 - (n : Int); omega)
  walk_at "zz"
  obtain ⟨init, lst, e1, e2, e3⟩ := last_of ss l0
  rw [e2]
  have li := dNs_len init
  have hss : ss.length = init.length + 1 := by rw [e1, List.length_append]; rfl
  have hs2 : ss.sum = init.sum + lst := by rw [e1, List.sum_append]; simp
  refine ⟨_, e3, ?_⟩
  walk_at "zz"
  refine And.intro (Sd.mk (by rw [li]; show init.length + 1 ≤ _; omega)) ?_
  have e4 : dNs init ++ [D.int ((lst : Int) + 1)] = dNs (init ++ [lst + 1]) := by rw [← dNs_snoc]; rfl
  rw [e4]
  walk_at "zz"
  have hs3 : (init ++ [lst + 1]).sum = ss.sum + 1 := by rw [List.sum_append, hs2]; simp; omega
  refine ⟨1, 0, cs, init ++ [lst + 1], 0, rfl, c1000, by rw [List.length_append]; show init.length + 1 ≤ 8; omega, by omega, fun ok => ?_, ?_⟩
  · have h1 := ok.1
    omega
  walk_at "zz"
  refine ⟨1, 1, cs, ss, (n : Nat), rfl, rfl, c1000, by omega, by omega, fun ok os2 v2 l2 r2 => ?_, fun no => absurd ⟨hsum, by omega, by omega⟩ no⟩
  have r2 : rk ss os2 = n := Int.ofNat_inj.mp r2
  have eo : os2 = os := rk_inj v2 v (by omega) (by omega)
  subst eo
  refine And.intro (Sd.mk (nb_N _)) ?_
  walk_at "zz"
  refine And.intro (Sd.mk ⟨pls_dNs _ _, pls_dNs _ _⟩) ?_
  exact finT q (eqs_dNs _)
theorem law_rest (Q : RV → Prop) (Wz : WZ) (q : Q (.d (.bl true))) (x0 : Option O) (cs ss : List Nat) (n : Nat) (l0 : 0 < ss.length) (l8 : ss.length ≤ 5) (h33 : ss.sum ≤ 32) (hsum : ss.sum = cs.length) (hn : n < Wy ss) (nd : cs.Nodup) (c32 : ∀ c ∈ cs, c < 32) :
    r_law_t7 Wz ⟨fun _ => Q (.d .non), retK Q, fun _ => False, fun _ => False⟩ [x0, some (.lst (dNs ss)), some (.lst (dNs cs)), some (.lst (dNs ss)), some (.pure (.int (Wy ss : Nat))), some (.pure (.int (n : Nat))), none, none, none, none, none] := by
  have c1000 : ∀ c ∈ cs, c ≤ 1000 := fun c hc => by have := c32 c hc; omega
  have c256 : ∀ c ∈ cs, c < 256 := fun c hc => by have := c32 c hc; omega
  have sl := sizeLine_eq
  have shd : ∀ os, Vd ss os → os.length = cs.length → Shd ss cs os (place (List.replicate ss.length 0) cs os) ∧ (place (List.replicate ss.length 0) cs os).sum = (cs.map (2 ^ ·)).sum ∧ (place (List.replicate ss.length 0) cs os).length ≤ 10 := fun os v l => by
    refine ⟨shd_place v l.symm nd c256, ?_, by rw [place_len, List.length_replicate]; omega⟩
    rw [place_sum cs os _ l.symm nd (fun c _ i => by rw [repl_get]; exact Nat.zero_testBit c) (fun o ho => by rw [List.length_replicate]; exact Vd_mem v o ho)]
    simp
  walk_at "zz"
  refine ⟨1, 1, cs, ss, (n : Nat), rfl, rfl, c1000, by omega, by omega, fun ok os v l r => ?_, fun no => absurd ⟨hsum, by omega, by omega⟩ no⟩
  have r : rk ss os = n := Int.ofNat_inj.mp r
  obtain ⟨s1, s2, s3⟩ := shd os v l
  refine And.intro (Sd.mk (nb_N _)) ?_
  walk_at "zz"
  refine ⟨1, 1, 1, cs, ss, _, os, rfl, s1, s2, c1000, s3, by omega, ?_⟩
  refine And.intro (Sd.mk (nb_N _)) ?_
  walk_at "zz"
  refine And.intro (Sd.mk ⟨pls_dNs _ _, pls_dNs _ _⟩) ?_
  conv => whnf
  refine Br.lF (by show (!D.eqs (dNs cs) (dNs cs)) = false; rw [eqs_dNs]; rfl) ?_
  walk_at "zz"
  refine And.intro (Sd.mk ⟨pls_dNs _ _, pls_dNs _ _⟩) ?_
  conv => whnf
  refine Br.lF (by show (!D.eqs (dNs ss) (dNs ss)) = false; rw [eqs_dNs]; rfl) ?_
  walk_at "zz"
  refine ⟨1, 0, cs, _, ss, os, rfl, s1, by omega, by omega, ?_⟩
  walk_at "zz"
  refine ⟨_, rfl, ?_⟩
  walk_at "zz"
  rw [r]
  walk_at "zz"
  refine And.intro (Sd.mk ⟨pls_dNs _ _, pls_dNs _ _⟩) ?_
  conv => whnf
  refine Br.lF (by show (!D.eqs (dNs cs) (dNs cs)) = false; rw [eqs_dNs]; rfl) ?_
  walk_at "zz"
  refine ⟨fun h => ?_, fun h => ?_⟩
  · have h : n + 1 < Wy ss := by have := bT h; omega
    walk_at "zz"
    refine ⟨1, 1, cs, ss, (n : Int) + 1, rfl, rfl, c1000, by omega, by omega, fun ok os2 v2 l2 r2 => ?_, fun no => absurd ⟨hsum, by omega, by omega⟩ no⟩
    have r2 : rk ss os2 = n + 1 := by omega
    obtain ⟨t1, t2, t3⟩ := shd os2 v2 l2
    refine And.intro (Sd.mk (nb_N _)) ?_
    walk_at "zz"
    refine ⟨1, 1, 0, cs, ss, _, os2, rfl, t1, t2, c1000, t3, by omega, ?_⟩
    refine And.intro (Sd.mk (nb_N _)) ?_
    walk_at "zz"
    refine ⟨os.map Int.ofNat, os2.map Int.ofNat, ⟨by rw [dNs_ints], by rw [dNs_ints]⟩, ?_⟩
    rw [rk_lex os os2 ss v v2 (by omega) (by omega)]
    walk_at "zz"
    exact ⟨law_end Q _ q _ _ _ _ _ _ cs ss os n l0 l8 h33 hsum hn c32 v l r⟩
  · have h : ¬ n + 1 < Wy ss := by have := bF h; omega
    walk_at "zz"
    refine ⟨1, 1, cs, ss, (n : Int) + 1, rfl, c1000, by omega, by omega, fun ok => ?_, ?_⟩
    · have := ok.2.2
      omega
    walk_at "zz"
    exact ⟨law_end Q _ q _ _ _ _ _ _ cs ss os n l0 l8 h33 hsum hn c32 v l r⟩
theorem read_law (ds : List D) (Q : RV → Prop) (E : EZ) (hs : sp_law ds Q E) : r_law (fun cls ns es _ => E cls ns es) ⟨fun _ => Q (.d .non), retK Q, fun _ => False, fun _ => False⟩ (args ds 11) := by
  obtain ⟨m, ns, rfl, hm, hl, q⟩ := hs
  have hl : (ns.length : Int) ≤ 63 := by omega
  walk_at "zz"
  refine ⟨m, ns, 8, rfl, hl, by decide, fun ss l0 l5 b8 b6 => ?_⟩
  have h32 : ss.sum ≤ 32 := by
    by_cases e : ss.length = 5
    · have := sum_le (b6 e); omega
    · have := sum_le b8
      have : 8 * ss.length ≤ 8 * 4 := Nat.mul_le_mul_left _ (by omega)
      omega
  walk_at "zz"
  refine ⟨1, ss.map Int.ofNat, by rw [dNs_ints], ?_⟩
  rw [sum_nat]
  walk_at "zz"
  refine ⟨m, ns, ss.sum, rfl, hl, by omega, fun cs lc nd c32 => ?_⟩
  walk_at "zz"
  refine ⟨1, ss, rfl, by omega, by omega, ?_⟩
  have hW : 0 < Wy ss := Wn_pos _ _
  walk_at "zz"
  refine ⟨_, rfl, ?_⟩
  walk_at "zz"
  refine Br.lF (decide_eq_false (by omega)) ?_
  walk_at "zz"
  refine And.intro (Sd.mk ⟨pls_dNs _ _, pls_dNs _ _⟩) ?_
  conv => whnf
  refine Br.lF (by show (!D.eqs (dNs ss) (dNs ss)) = false; rw [eqs_dNs]; rfl) ?_
  walk_at "zz"
  refine ⟨1, ss, rfl, by omega, by omega, ?_⟩
  walk_at "zz"
  refine ⟨m, ns, 6, rfl, hl, by decide, by decide, fun r r0 _ => ?_⟩
  obtain ⟨n0, hn0, en0⟩ : ∃ n0 : Nat, n0 < Wy ss ∧ atI [D.int 0, D.int (((Wy ss : Nat) : Int) - 1)] (r % 2) = some (.int (n0 : Nat)) := by
    rcases (show r % 2 = 0 ∨ r % 2 = 1 by omega) with e | e <;> rw [e]
    · exact ⟨0, hW, rfl⟩
    · refine ⟨Wy ss - 1, by omega, ?_⟩
      show some (D.int (((Wy ss : Nat) : Int) - 1)) = _
      rw [Int.ofNat_sub hW]; rfl
  walk_at "zz"
  refine ⟨_, en0, ?_⟩
  walk_at "zz"
  refine ⟨m, ns, 7, rfl, hl, by decide, by decide, fun r1 r10 _ => ?_⟩
  walk_at "zz"
  refine ⟨fun h => ?_, fun h => ?_⟩
  · walk_at "zz"
    refine ⟨m, ns, 8, rfl, hl, by decide, by decide, fun r2 r20 _ => ?_⟩
    have h0 := Int.emod_nonneg r2 (show ((Wy ss : Nat) : Int) ≠ 0 by omega)
    have h1 := Int.emod_lt_of_pos r2 (show (0 : Int) < ((Wy ss : Nat) : Int) by omega)
    obtain ⟨n, en⟩ : ∃ n : Nat, r2 % ((Wy ss : Nat) : Int) = (n : Nat) := ⟨(r2 % ((Wy ss : Nat) : Int)).toNat, by omega⟩
    walk_at "zz"
    rw [en]
    exact ⟨law_rest Q _ q _ cs ss n l0 l5 h32 lc.symm (by omega) nd c32⟩
  · walk_at "zz"
    exact ⟨law_rest Q _ q _ cs ss n0 l0 l5 h32 lc.symm hn0 nd c32⟩
/-! ## the walk -/
def topS (i : Nat) : Stmt := PySem.Challenge.pw_trickproof_k06_one_share.main.body.getD i (.Pass ⟨0, 0, 0, 0⟩)
abbrev s_law_mixed : Stmt := topS 13
abbrev N_law_mixed : List Str := ["_law_script", "_law_k", "_law_number", "_law_root"]
theorem sc_law_mixed : FnScope N_law_mixed ["_law_script", "_law_k"] (defScope s_law_mixed) := ⟨rfl, rfl, rfl, by decide +kernel, rfl, by decide +kernel, by decide +kernel⟩
abbrev s_law_sizes : Stmt := topS 15
abbrev N_law_sizes : List Str := ["_law_script", "_law_most", "_law_seats", "_law_seat"]
theorem sc_law_sizes : FnScope N_law_sizes ["_law_script", "_law_most"] (defScope s_law_sizes) := ⟨rfl, rfl, rfl, by decide +kernel, rfl, by decide +kernel, by decide +kernel⟩
abbrev s_law_pack : Stmt := topS 16
abbrev N_law_pack : List Str := ["_law_script", "_law_size", "_law_order", "_law_card", "_law_pair"]
theorem sc_law_pack : FnScope N_law_pack ["_law_script", "_law_size"] (defScope s_law_pack) := ⟨rfl, rfl, rfl, by decide +kernel, rfl, by decide +kernel, by decide +kernel⟩
abbrev s_ways : Stmt := topS 8
abbrev N_ways : List Str := ["sizes", "found", "whole", "size", "k"]
theorem sc_ways : FnScope N_ways ["sizes"] (defScope s_ways) := ⟨rfl, rfl, rfl, by decide +kernel, rfl, by decide +kernel, by decide +kernel⟩
abbrev s_law_whole : Stmt := topS 14
abbrev N_law_whole : List Str := ["_law_found"]
theorem sc_law_whole : FnScope N_law_whole ["_law_found"] (defScope s_law_whole) := ⟨rfl, rfl, rfl, by decide +kernel, rfl, by decide +kernel, by decide +kernel⟩
abbrev s_law_added : Stmt := topS 21
abbrev N_law_added : List Str := ["_law_sizes_here", "_law_found", "_law_seat", "_law_k"]
theorem sc_law_added : FnScope N_law_added ["_law_sizes_here"] (defScope s_law_added) := ⟨rfl, rfl, rfl, by decide +kernel, rfl, by decide +kernel, by decide +kernel⟩
abbrev s_ways_with : Stmt := topS 9
abbrev N_ways_with : List Str := ["sizes", "seat", "k"]
theorem sc_ways_with : FnScope N_ways_with ["sizes", "seat"] (defScope s_ways_with) := ⟨rfl, rfl, rfl, by decide +kernel, rfl, by decide +kernel, by decide +kernel⟩
abbrev s_share : Stmt := topS 10
abbrev N_share : List Str := ["cards", "sizes", "number", "hands", "card", "seat"]
theorem sc_share : FnScope N_share ["cards", "sizes", "number"] (defScope s_share) := ⟨rfl, rfl, rfl, by decide +kernel, rfl, by decide +kernel, by decide +kernel⟩
abbrev s_law_owners : Stmt := topS 20
abbrev N_law_owners : List Str := ["_law_cards", "_law_sizes_here", "_law_hands", "_law_hand", "_law_card", "_law_owners_here", "_law_holders", "_law_seat"]
theorem sc_law_owners : FnScope N_law_owners ["_law_cards", "_law_sizes_here", "_law_hands"] (defScope s_law_owners) := ⟨rfl, rfl, rfl, by decide +kernel, rfl, by decide +kernel, by decide +kernel⟩
abbrev s_many : Stmt := topS 1
abbrev N_many : List Str := ["hand", "found"]
theorem sc_many : FnScope N_many ["hand"] (defScope s_many) := ⟨rfl, rfl, rfl, by decide +kernel, rfl, by decide +kernel, by decide +kernel⟩
abbrev s_number_of : Stmt := topS 11
abbrev N_number_of : List Str := ["cards", "hands", "sizes", "hand", "number", "card", "seat"]
theorem sc_number_of : FnScope N_number_of ["cards", "hands"] (defScope s_number_of) := ⟨rfl, rfl, rfl, by decide +kernel, rfl, by decide +kernel, by decide +kernel⟩
abbrev s_law_other : Stmt := topS 17
abbrev N_law_other : List Str := ["_law_caught"]
theorem sc_law_other : FnScope N_law_other ["_law_caught"] (defScope s_law_other) := ⟨rfl, rfl, rfl, by decide +kernel, rfl, by decide +kernel, by decide +kernel⟩
abbrev s_law_refusal : Stmt := topS 18
abbrev N_law_refusal : List Str := ["_law_caught"]
theorem sc_law_refusal : FnScope N_law_refusal ["_law_caught"] (defScope s_law_refusal) := ⟨rfl, rfl, rfl, by decide +kernel, rfl, by decide +kernel, by decide +kernel⟩
abbrev s_law_refused : Stmt := topS 19
abbrev N_law_refused : List Str := ["_law_cards", "_law_sizes_here", "_law_number", "_law_caught", "e"]
theorem sc_law_refused : FnScope N_law_refused ["_law_cards", "_law_sizes_here", "_law_number"] (defScope s_law_refused) := ⟨rfl, rfl, rfl, by decide +kernel, rfl, by decide +kernel, by decide +kernel⟩
abbrev s_law : Stmt := topS 22
abbrev N_law : List Str := ["_law_script", "_law_sizes_here", "_law_cards", "_law_handed", "_law_whole_here", "_law_number", "_law_some", "_law_hands", "_law_owners_here", "_law_given", "_law_later"]
theorem sc_law : FnScope N_law ["_law_script"] (defScope s_law) := ⟨rfl, rfl, rfl, by decide +kernel, rfl, by decide +kernel, by decide +kernel⟩
structure AD where
  a_law_mixed : Addr
  d_law_mixed : FuncData
  a_law_sizes : Addr
  d_law_sizes : FuncData
  a_law_pack : Addr
  d_law_pack : FuncData
  a_ways : Addr
  d_ways : FuncData
  a_law_whole : Addr
  d_law_whole : FuncData
  a_law_added : Addr
  d_law_added : FuncData
  a_ways_with : Addr
  d_ways_with : FuncData
  a_share : Addr
  d_share : FuncData
  a_law_owners : Addr
  d_law_owners : FuncData
  a_many : Addr
  d_many : FuncData
  a_number_of : Addr
  d_number_of : FuncData
  a_law_other : Addr
  d_law_other : FuncData
  a_law_refusal : Addr
  d_law_refusal : FuncData
  a_law_refused : Addr
  d_law_refused : FuncData
  a_law : Addr
  d_law : FuncData
  k_NoDeal : Addr
  k_NoHand : Addr
  k_NoShare : Addr
  k_TrickError : Addr
structure Txt (K : Frag) (mg : Str → Option Value) (A : AD) : Prop where
  D_law_mixed : DefAt K mg "_law_mixed" s_law_mixed ["_law_script", "_law_k"] A.a_law_mixed A.d_law_mixed
  D_law_sizes : DefAt K mg "_law_sizes" s_law_sizes ["_law_script", "_law_most"] A.a_law_sizes A.d_law_sizes
  D_law_pack : DefAt K mg "_law_pack" s_law_pack ["_law_script", "_law_size"] A.a_law_pack A.d_law_pack
  D_ways : DefAt K mg "ways" s_ways ["sizes"] A.a_ways A.d_ways
  D_law_whole : DefAt K mg "_law_whole" s_law_whole ["_law_found"] A.a_law_whole A.d_law_whole
  D_law_added : DefAt K mg "_law_added" s_law_added ["_law_sizes_here"] A.a_law_added A.d_law_added
  D_ways_with : DefAt K mg "ways_with" s_ways_with ["sizes", "seat"] A.a_ways_with A.d_ways_with
  D_share : DefAt K mg "share" s_share ["cards", "sizes", "number"] A.a_share A.d_share
  D_law_owners : DefAt K mg "_law_owners" s_law_owners ["_law_cards", "_law_sizes_here", "_law_hands"] A.a_law_owners A.d_law_owners
  D_many : DefAt K mg "many" s_many ["hand"] A.a_many A.d_many
  D_number_of : DefAt K mg "number_of" s_number_of ["cards", "hands"] A.a_number_of A.d_number_of
  D_law_other : DefAt K mg "_law_other" s_law_other ["_law_caught"] A.a_law_other A.d_law_other
  D_law_refusal : DefAt K mg "_law_refusal" s_law_refusal ["_law_caught"] A.a_law_refusal A.d_law_refusal
  D_law_refused : DefAt K mg "_law_refused" s_law_refused ["_law_cards", "_law_sizes_here", "_law_number"] A.a_law_refused A.d_law_refused
  D_law : DefAt K mg "law" s_law ["_law_script"] A.a_law A.d_law
  C_NoDeal : ClsAt K c_NoDeal A.k_NoDeal
  mg_NoDeal : mg "NoDeal" = some (.ref A.k_NoDeal)
  C_NoHand : ClsAt K c_NoHand A.k_NoHand
  mg_NoHand : mg "NoHand" = some (.ref A.k_NoHand)
  C_NoShare : ClsAt K c_NoShare A.k_NoShare
  mg_NoShare : mg "NoShare" = some (.ref A.k_NoShare)
  C_TrickError : ClsAt K c_TrickError A.k_TrickError
  mg_TrickError : mg "TrickError" = some (.ref A.k_TrickError)
  E_NoShare : ∃ C, ExAt K mg c_NoShare C
  xm_NoShare_TrickError : ExmAt K c_NoShare c_TrickError
  ty_NoShare : ∃ C, ClsAt K c_NoShare C ∧ ExcC K C
  kt_NoShare_NoDeal : KitAt K c_NoShare (.o c_NoDeal)
  kt_NoShare_NoHand : KitAt K c_NoShare (.o c_NoHand)
  kt_NoShare_NoShare : KitAt K c_NoShare (.o c_NoShare)
  kt_NoShare_ValueError : KitAt K c_NoShare (.t "ValueError")
  x_ValueError : mg "ValueError" = none
  x_all : mg "all" = none
  x_bool : mg "bool" = none
  x_int : mg "int" = none
  x_isinstance : mg "isinstance" = none
  x_len : mg "len" = none
  x_list : mg "list" = none
  x_min : mg "min" = none
  x_range : mg "range" = none
  x_sorted : mg "sorted" = none
  x_sum : mg "sum" = none
section
variable {P : Program} {w : World} {K : Frag} {mg : Str → Option Value} {base : Heap} {A : AD}
theorem len_law_mixed : ∀ ds Q E, sp_law_mixed ds Q E → ds.length = ["_law_script", "_law_k"].length := by
  intro ds Q E h
  first | (exact h.elim) | (obtain ⟨rfl, _⟩ := h; rfl; done) | (obtain ⟨_, rfl, _⟩ := h; rfl; done) | (obtain ⟨_, _, rfl, _⟩ := h; rfl; done) | (obtain ⟨_, _, _, rfl, _⟩ := h; rfl; done) | (obtain ⟨_, _, _, _, rfl, _⟩ := h; rfl; done) | (obtain ⟨_, _, _, _, _, rfl, _⟩ := h; rfl; done) | (obtain ⟨_, _, _, _, _, _, rfl, _⟩ := h; rfl; done) | (obtain ⟨_, _, _, _, _, _, _, rfl, _⟩ := h; rfl; done) | (obtain ⟨_, _, _, _, _, _, _, _, rfl, _⟩ := h; rfl; done) | (obtain ⟨_, _, _, _, _, _, _, _, _, rfl, _⟩ := h; rfl; done) | (obtain ⟨_, _, _, _, _, _, _, _, _, _, rfl, _⟩ := h; rfl; done) | (obtain ⟨_, _, _, _, _, _, _, _, _, _, _, rfl, _⟩ := h; rfl; done) | ((rcases h with h | h <;> first | (exact h.elim) | (obtain ⟨rfl, _⟩ := h; rfl; done) | (obtain ⟨_, rfl, _⟩ := h; rfl; done) | (obtain ⟨_, _, rfl, _⟩ := h; rfl; done) | (obtain ⟨_, _, _, rfl, _⟩ := h; rfl; done) | (obtain ⟨_, _, _, _, rfl, _⟩ := h; rfl; done) | (obtain ⟨_, _, _, _, _, rfl, _⟩ := h; rfl; done) | (obtain ⟨_, _, _, _, _, _, rfl, _⟩ := h; rfl; done) | (obtain ⟨_, _, _, _, _, _, _, rfl, _⟩ := h; rfl; done) | (obtain ⟨_, _, _, _, _, _, _, _, rfl, _⟩ := h; rfl; done) | (obtain ⟨_, _, _, _, _, _, _, _, _, rfl, _⟩ := h; rfl; done) | (obtain ⟨_, _, _, _, _, _, _, _, _, _, rfl, _⟩ := h; rfl; done) | (obtain ⟨_, _, _, _, _, _, _, _, _, _, _, rfl, _⟩ := h; rfl; done)); done)
theorem ok_law_mixed (T : Txt K mg A) : FnOk P w K mg base (L2.CX P w) 1 A.a_law_mixed A.d_law_mixed ["_law_script", "_law_k"] (toSp K sp_law_mixed) :=
  fn_z (k := 0) T.D_law_mixed.F sc_law_mixed len_law_mixed r_law_mixed (fun cdv A_ outer s H E G B Wz C =>
  (zs_cons (s_set (i := 2) C.nd (z_bin oz_add (z_var 1) z_int))
  (zs_cons (s_if (t_cmp (oz_gtX C.room.units) (nomark _) (z_callB cz_len (by rfl) T.x_len (by decide +kernel) (za_cons (z_var 0) za_nil)) z_int) (zs_one (s_set (i := 2) C.nd (z_bin oz_add (z_var 2) (z_bin oz_mul (z_bin oz_mod (z_ix (z_var 0) (z_bin oz_mod (z_var 1) (z_callB cz_len (by rfl) T.x_len (by decide +kernel) (za_cons (z_var 0) za_nil)))) (z_bin oz_pow z_int z_int)) (z_bin oz_add (z_bin oz_fdiv (z_var 1) (z_callB cz_len (by rfl) T.x_len (by decide +kernel) (za_cons (z_var 0) za_nil))) z_int))))) zs_nil)
  (zs_cons (s_set (i := 3) C.nd (z_bin oz_mul (z_var 2) z_int))
  (zs_one (s_ret (z_bin oz_fdiv (z_bin oz_mul (z_bin oz_mul (z_var 3) (z_var 3)) (z_var 3)) z_int))))))) read_law_mixed
theorem len_law_sizes : ∀ ds Q E, sp_law_sizes ds Q E → ds.length = ["_law_script", "_law_most"].length := by
  intro ds Q E h
  first | (exact h.elim) | (obtain ⟨rfl, _⟩ := h; rfl; done) | (obtain ⟨_, rfl, _⟩ := h; rfl; done) | (obtain ⟨_, _, rfl, _⟩ := h; rfl; done) | (obtain ⟨_, _, _, rfl, _⟩ := h; rfl; done) | (obtain ⟨_, _, _, _, rfl, _⟩ := h; rfl; done) | (obtain ⟨_, _, _, _, _, rfl, _⟩ := h; rfl; done) | (obtain ⟨_, _, _, _, _, _, rfl, _⟩ := h; rfl; done) | (obtain ⟨_, _, _, _, _, _, _, rfl, _⟩ := h; rfl; done) | (obtain ⟨_, _, _, _, _, _, _, _, rfl, _⟩ := h; rfl; done) | (obtain ⟨_, _, _, _, _, _, _, _, _, rfl, _⟩ := h; rfl; done) | (obtain ⟨_, _, _, _, _, _, _, _, _, _, rfl, _⟩ := h; rfl; done) | (obtain ⟨_, _, _, _, _, _, _, _, _, _, _, rfl, _⟩ := h; rfl; done) | ((rcases h with h | h <;> first | (exact h.elim) | (obtain ⟨rfl, _⟩ := h; rfl; done) | (obtain ⟨_, rfl, _⟩ := h; rfl; done) | (obtain ⟨_, _, rfl, _⟩ := h; rfl; done) | (obtain ⟨_, _, _, rfl, _⟩ := h; rfl; done) | (obtain ⟨_, _, _, _, rfl, _⟩ := h; rfl; done) | (obtain ⟨_, _, _, _, _, rfl, _⟩ := h; rfl; done) | (obtain ⟨_, _, _, _, _, _, rfl, _⟩ := h; rfl; done) | (obtain ⟨_, _, _, _, _, _, _, rfl, _⟩ := h; rfl; done) | (obtain ⟨_, _, _, _, _, _, _, _, rfl, _⟩ := h; rfl; done) | (obtain ⟨_, _, _, _, _, _, _, _, _, rfl, _⟩ := h; rfl; done) | (obtain ⟨_, _, _, _, _, _, _, _, _, _, rfl, _⟩ := h; rfl; done) | (obtain ⟨_, _, _, _, _, _, _, _, _, _, _, rfl, _⟩ := h; rfl; done)); done)
theorem ok_law_sizes (T : Txt K mg A) : FnOk P w K mg base (L2.CX P w) 2 A.a_law_sizes A.d_law_sizes ["_law_script", "_law_most"] (toSp K sp_law_sizes) :=
  fn_z (k := 1) T.D_law_sizes.F sc_law_sizes len_law_sizes r_law_sizes (fun cdv A_ outer s H E G B Wz C =>
  (zs_cons (s_set (i := 2) C.nd (z_bin oz_add z_int (z_bin oz_mod (z_call C (ok_law_mixed T) (by decide) T.D_law_mixed.m T.D_law_mixed.F.kp T.D_law_mixed.b (za_cons (z_var 0) (za_cons z_int za_nil))) z_int)))
  (zs_cons (s_if (t_cmp (oz_eq C.room.units) (nomark _) (z_var 2) z_int) (zs_one (s_set (i := 1) C.nd (z_callB (cz_min C.calm) (by rfl) T.x_min (by decide +kernel) (za_cons (z_var 1) (za_cons z_int za_nil))))) zs_nil)
  (zs_one (s_ret (z_lc (own := [("_law_seat", 3)]) C (zi_range1 T.x_range (za_cons (z_var 2) za_nil)) (blkOk_by (N := N_law_sizes) (sc := defScope s_law_sizes) (by decide +kernel)) (fun s H C_ cl fp B_ C => (gc_name C.nd)) (fun s H C_ cl fp B_ C => ts_nil) (fun s H C_ cl fp B_ C => (z_bin oz_mod (z_bin oz_fdiv (z_call C (ok_law_mixed T) (by decide) T.D_law_mixed.m T.D_law_mixed.F.kp T.D_law_mixed.b (za_cons (z_var 0) (za_cons (z_bin oz_add z_int (z_var 3)) za_nil))) z_int) (z_bin oz_add (z_var 1) z_int))))))))) read_law_sizes
theorem len_law_pack : ∀ ds Q E, sp_law_pack ds Q E → ds.length = ["_law_script", "_law_size"].length := by
  intro ds Q E h
  first | (exact h.elim) | (obtain ⟨rfl, _⟩ := h; rfl; done) | (obtain ⟨_, rfl, _⟩ := h; rfl; done) | (obtain ⟨_, _, rfl, _⟩ := h; rfl; done) | (obtain ⟨_, _, _, rfl, _⟩ := h; rfl; done) | (obtain ⟨_, _, _, _, rfl, _⟩ := h; rfl; done) | (obtain ⟨_, _, _, _, _, rfl, _⟩ := h; rfl; done) | (obtain ⟨_, _, _, _, _, _, rfl, _⟩ := h; rfl; done) | (obtain ⟨_, _, _, _, _, _, _, rfl, _⟩ := h; rfl; done) | (obtain ⟨_, _, _, _, _, _, _, _, rfl, _⟩ := h; rfl; done) | (obtain ⟨_, _, _, _, _, _, _, _, _, rfl, _⟩ := h; rfl; done) | (obtain ⟨_, _, _, _, _, _, _, _, _, _, rfl, _⟩ := h; rfl; done) | (obtain ⟨_, _, _, _, _, _, _, _, _, _, _, rfl, _⟩ := h; rfl; done) | ((rcases h with h | h <;> first | (exact h.elim) | (obtain ⟨rfl, _⟩ := h; rfl; done) | (obtain ⟨_, rfl, _⟩ := h; rfl; done) | (obtain ⟨_, _, rfl, _⟩ := h; rfl; done) | (obtain ⟨_, _, _, rfl, _⟩ := h; rfl; done) | (obtain ⟨_, _, _, _, rfl, _⟩ := h; rfl; done) | (obtain ⟨_, _, _, _, _, rfl, _⟩ := h; rfl; done) | (obtain ⟨_, _, _, _, _, _, rfl, _⟩ := h; rfl; done) | (obtain ⟨_, _, _, _, _, _, _, rfl, _⟩ := h; rfl; done) | (obtain ⟨_, _, _, _, _, _, _, _, rfl, _⟩ := h; rfl; done) | (obtain ⟨_, _, _, _, _, _, _, _, _, rfl, _⟩ := h; rfl; done) | (obtain ⟨_, _, _, _, _, _, _, _, _, _, rfl, _⟩ := h; rfl; done) | (obtain ⟨_, _, _, _, _, _, _, _, _, _, _, rfl, _⟩ := h; rfl; done)); done)
theorem ok_law_pack (T : Txt K mg A) : FnOk P w K mg base (L2.CX P w) 2 A.a_law_pack A.d_law_pack ["_law_script", "_law_size"] (toSp K sp_law_pack) :=
  fn_z (k := 1) T.D_law_pack.F sc_law_pack len_law_pack r_law_pack (fun cdv A_ outer s H E G B Wz C =>
  (zs_cons (s_set (i := 2) C.nd (z_callB cz_sortedP (by rfl) T.x_sorted (by decide +kernel) (za_cons (z_lc (own := [("_law_card", 3)]) C (zi_range1 T.x_range (za_cons z_int za_nil)) (blkOk_by (N := N_law_pack) (sc := defScope s_law_pack) (by decide +kernel)) (fun s H C_ cl fp B_ C => (gc_name C.nd)) (fun s H C_ cl fp B_ C => ts_nil) (fun s H C_ cl fp B_ C => (z_tup (zd_cons (z_bin oz_mod (z_call C (ok_law_mixed T) (by decide) T.D_law_mixed.m T.D_law_mixed.F.kp T.D_law_mixed.b (za_cons (z_var 0) (za_cons (z_bin oz_add z_int (z_var 3)) za_nil))) z_int) (zd_cons (z_var 3) zd_nil))))) za_nil)))
  (zs_one (s_ret (z_lc (own := [("_law_pair", 4)]) C (zi_seq (z_sl (z_var 2) zo_none (zo_some (z_var 1)))) (blkOk_by (N := N_law_pack) (sc := defScope s_law_pack) (by decide +kernel)) (fun s H C_ cl fp B_ C => (gc_name C.nd)) (fun s H C_ cl fp B_ C => ts_nil) (fun s H C_ cl fp B_ C => (z_ix (z_var 4) z_int))))))) read_law_pack
theorem len_ways : ∀ ds Q E, sp_ways ds Q E → ds.length = ["sizes"].length := by
  intro ds Q E h
  first | (exact h.elim) | (obtain ⟨rfl, _⟩ := h; rfl; done) | (obtain ⟨_, rfl, _⟩ := h; rfl; done) | (obtain ⟨_, _, rfl, _⟩ := h; rfl; done) | (obtain ⟨_, _, _, rfl, _⟩ := h; rfl; done) | (obtain ⟨_, _, _, _, rfl, _⟩ := h; rfl; done) | (obtain ⟨_, _, _, _, _, rfl, _⟩ := h; rfl; done) | (obtain ⟨_, _, _, _, _, _, rfl, _⟩ := h; rfl; done) | (obtain ⟨_, _, _, _, _, _, _, rfl, _⟩ := h; rfl; done) | (obtain ⟨_, _, _, _, _, _, _, _, rfl, _⟩ := h; rfl; done) | (obtain ⟨_, _, _, _, _, _, _, _, _, rfl, _⟩ := h; rfl; done) | (obtain ⟨_, _, _, _, _, _, _, _, _, _, rfl, _⟩ := h; rfl; done) | (obtain ⟨_, _, _, _, _, _, _, _, _, _, _, rfl, _⟩ := h; rfl; done) | ((rcases h with h | h <;> first | (exact h.elim) | (obtain ⟨rfl, _⟩ := h; rfl; done) | (obtain ⟨_, rfl, _⟩ := h; rfl; done) | (obtain ⟨_, _, rfl, _⟩ := h; rfl; done) | (obtain ⟨_, _, _, rfl, _⟩ := h; rfl; done) | (obtain ⟨_, _, _, _, rfl, _⟩ := h; rfl; done) | (obtain ⟨_, _, _, _, _, rfl, _⟩ := h; rfl; done) | (obtain ⟨_, _, _, _, _, _, rfl, _⟩ := h; rfl; done) | (obtain ⟨_, _, _, _, _, _, _, rfl, _⟩ := h; rfl; done) | (obtain ⟨_, _, _, _, _, _, _, _, rfl, _⟩ := h; rfl; done) | (obtain ⟨_, _, _, _, _, _, _, _, _, rfl, _⟩ := h; rfl; done) | (obtain ⟨_, _, _, _, _, _, _, _, _, _, rfl, _⟩ := h; rfl; done) | (obtain ⟨_, _, _, _, _, _, _, _, _, _, _, rfl, _⟩ := h; rfl; done)); done)
theorem ok_ways (T : Txt K mg A) : FnOk P w K mg base (L2.CX P w) 1 A.a_ways A.d_ways ["sizes"] (toSp K sp_ways) :=
  fn_z (k := 0) T.D_ways.F sc_ways len_ways r_ways (fun cdv A_ outer s H E G B Wz C =>
  (zs_cons (s_set (i := 1) C.nd z_int)
  (zs_cons (s_set (i := 2) C.nd z_int)
  (zs_cons (s_for C (zi_seq (z_var 0)) (g_name C.nd) (zs_one (s_for C (zi_range2 T.x_range (za_cons z_int (za_cons (z_bin oz_add (z_var 3) z_int) za_nil))) (g_name C.nd) (zs_cons (s_set (i := 2) C.nd (z_bin oz_add (z_var 2) z_int))
  (zs_one (s_set (i := 1) C.nd (z_bin oz_fdiv (z_bin oz_mul (z_var 1) (z_var 2)) (z_var 4))))))))
  (zs_one (s_ret (z_var 1))))))) read_ways
theorem len_law_whole : ∀ ds Q E, sp_law_whole ds Q E → ds.length = ["_law_found"].length := by
  intro ds Q E h
  first | (exact h.elim) | (obtain ⟨rfl, _⟩ := h; rfl; done) | (obtain ⟨_, rfl, _⟩ := h; rfl; done) | (obtain ⟨_, _, rfl, _⟩ := h; rfl; done) | (obtain ⟨_, _, _, rfl, _⟩ := h; rfl; done) | (obtain ⟨_, _, _, _, rfl, _⟩ := h; rfl; done) | (obtain ⟨_, _, _, _, _, rfl, _⟩ := h; rfl; done) | (obtain ⟨_, _, _, _, _, _, rfl, _⟩ := h; rfl; done) | (obtain ⟨_, _, _, _, _, _, _, rfl, _⟩ := h; rfl; done) | (obtain ⟨_, _, _, _, _, _, _, _, rfl, _⟩ := h; rfl; done) | (obtain ⟨_, _, _, _, _, _, _, _, _, rfl, _⟩ := h; rfl; done) | (obtain ⟨_, _, _, _, _, _, _, _, _, _, rfl, _⟩ := h; rfl; done) | (obtain ⟨_, _, _, _, _, _, _, _, _, _, _, rfl, _⟩ := h; rfl; done) | ((rcases h with h | h <;> first | (exact h.elim) | (obtain ⟨rfl, _⟩ := h; rfl; done) | (obtain ⟨_, rfl, _⟩ := h; rfl; done) | (obtain ⟨_, _, rfl, _⟩ := h; rfl; done) | (obtain ⟨_, _, _, rfl, _⟩ := h; rfl; done) | (obtain ⟨_, _, _, _, rfl, _⟩ := h; rfl; done) | (obtain ⟨_, _, _, _, _, rfl, _⟩ := h; rfl; done) | (obtain ⟨_, _, _, _, _, _, rfl, _⟩ := h; rfl; done) | (obtain ⟨_, _, _, _, _, _, _, rfl, _⟩ := h; rfl; done) | (obtain ⟨_, _, _, _, _, _, _, _, rfl, _⟩ := h; rfl; done) | (obtain ⟨_, _, _, _, _, _, _, _, _, rfl, _⟩ := h; rfl; done) | (obtain ⟨_, _, _, _, _, _, _, _, _, _, rfl, _⟩ := h; rfl; done) | (obtain ⟨_, _, _, _, _, _, _, _, _, _, _, rfl, _⟩ := h; rfl; done)); done)
theorem ok_law_whole (T : Txt K mg A) : FnOk P w K mg base (L2.CX P w) 1 A.a_law_whole A.d_law_whole ["_law_found"] (toSp K sp_law_whole) :=
  fn_z (k := 0) T.D_law_whole.F sc_law_whole len_law_whole r_law_whole (fun cdv A_ outer s H E G B Wz C =>
  (zs_one (s_ret (z_and (z_isi .int (z_var 0) (by rfl) T.x_isinstance (by rfl) T.x_int (by decide +kernel) (by decide) (by decide)) (z_one (z_not (z_isi .bool (z_var 0) (by rfl) T.x_isinstance (by rfl) T.x_bool (by decide +kernel) (by decide) (by decide)))))))) read_law_whole
theorem len_law_added : ∀ ds Q E, sp_law_added ds Q E → ds.length = ["_law_sizes_here"].length := by
  intro ds Q E h
  first | (exact h.elim) | (obtain ⟨rfl, _⟩ := h; rfl; done) | (obtain ⟨_, rfl, _⟩ := h; rfl; done) | (obtain ⟨_, _, rfl, _⟩ := h; rfl; done) | (obtain ⟨_, _, _, rfl, _⟩ := h; rfl; done) | (obtain ⟨_, _, _, _, rfl, _⟩ := h; rfl; done) | (obtain ⟨_, _, _, _, _, rfl, _⟩ := h; rfl; done) | (obtain ⟨_, _, _, _, _, _, rfl, _⟩ := h; rfl; done) | (obtain ⟨_, _, _, _, _, _, _, rfl, _⟩ := h; rfl; done) | (obtain ⟨_, _, _, _, _, _, _, _, rfl, _⟩ := h; rfl; done) | (obtain ⟨_, _, _, _, _, _, _, _, _, rfl, _⟩ := h; rfl; done) | (obtain ⟨_, _, _, _, _, _, _, _, _, _, rfl, _⟩ := h; rfl; done) | (obtain ⟨_, _, _, _, _, _, _, _, _, _, _, rfl, _⟩ := h; rfl; done) | ((rcases h with h | h <;> first | (exact h.elim) | (obtain ⟨rfl, _⟩ := h; rfl; done) | (obtain ⟨_, rfl, _⟩ := h; rfl; done) | (obtain ⟨_, _, rfl, _⟩ := h; rfl; done) | (obtain ⟨_, _, _, rfl, _⟩ := h; rfl; done) | (obtain ⟨_, _, _, _, rfl, _⟩ := h; rfl; done) | (obtain ⟨_, _, _, _, _, rfl, _⟩ := h; rfl; done) | (obtain ⟨_, _, _, _, _, _, rfl, _⟩ := h; rfl; done) | (obtain ⟨_, _, _, _, _, _, _, rfl, _⟩ := h; rfl; done) | (obtain ⟨_, _, _, _, _, _, _, _, rfl, _⟩ := h; rfl; done) | (obtain ⟨_, _, _, _, _, _, _, _, _, rfl, _⟩ := h; rfl; done) | (obtain ⟨_, _, _, _, _, _, _, _, _, _, rfl, _⟩ := h; rfl; done) | (obtain ⟨_, _, _, _, _, _, _, _, _, _, _, rfl, _⟩ := h; rfl; done)); done)
theorem ok_law_added (T : Txt K mg A) : FnOk P w K mg base (L2.CX P w) 2 A.a_law_added A.d_law_added ["_law_sizes_here"] (toSp K sp_law_added) :=
  fn_z (k := 1) T.D_law_added.F sc_law_added len_law_added r_law_added (fun cdv A_ outer s H E G B Wz C =>
  (zs_cons (s_if (t_cmp (oz_eq C.room.units) (nomark _) (z_callB (cz_sum C.calm) (by rfl) T.x_sum (by decide +kernel) (za_cons (z_var 0) za_nil)) z_int) (zs_one (s_ret z_int)) zs_nil)
  (zs_cons (s_set (i := 1) C.nd z_int)
  (zs_cons (s_for C (zi_range1 T.x_range (za_cons (z_callB cz_len (by rfl) T.x_len (by decide +kernel) (za_cons (z_var 0) za_nil)) za_nil)) (g_name C.nd) (zs_one (s_if (t_cmp (oz_gtX C.room.units) (nomark _) (z_ix (z_var 0) (z_var 2)) z_int) (zs_one (s_set (i := 1) C.nd (z_bin oz_add (z_var 1) (z_call C (ok_ways T) (by decide) T.D_ways.m T.D_ways.F.kp T.D_ways.b (za_cons (z_lc (own := [("_law_k", 3)]) C (zi_range1 T.x_range (za_cons (z_callB cz_len (by rfl) T.x_len (by decide +kernel) (za_cons (z_var 0) za_nil)) za_nil)) (blkOk_by (N := N_law_added) (sc := defScope s_law_added) (by decide +kernel)) (fun s H C_ cl fp B_ C => (gc_name C.nd)) (fun s H C_ cl fp B_ C => ts_nil) (fun s H C_ cl fp B_ C => (z_bin oz_sub (z_ix (z_var 0) (z_var 3)) (z_callTy cz_int (by rfl) T.x_int (by decide +kernel) (za_cons (z_cmp (oz_eq C.room.units) (nomark _) (z_var 3) (z_var 2)) za_nil))))) za_nil))))) zs_nil)))
  (zs_one (s_ret (z_var 1))))))) read_law_added
theorem len_ways_with : ∀ ds Q E, sp_ways_with ds Q E → ds.length = ["sizes", "seat"].length := by
  intro ds Q E h
  first | (exact h.elim) | (obtain ⟨rfl, _⟩ := h; rfl; done) | (obtain ⟨_, rfl, _⟩ := h; rfl; done) | (obtain ⟨_, _, rfl, _⟩ := h; rfl; done) | (obtain ⟨_, _, _, rfl, _⟩ := h; rfl; done) | (obtain ⟨_, _, _, _, rfl, _⟩ := h; rfl; done) | (obtain ⟨_, _, _, _, _, rfl, _⟩ := h; rfl; done) | (obtain ⟨_, _, _, _, _, _, rfl, _⟩ := h; rfl; done) | (obtain ⟨_, _, _, _, _, _, _, rfl, _⟩ := h; rfl; done) | (obtain ⟨_, _, _, _, _, _, _, _, rfl, _⟩ := h; rfl; done) | (obtain ⟨_, _, _, _, _, _, _, _, _, rfl, _⟩ := h; rfl; done) | (obtain ⟨_, _, _, _, _, _, _, _, _, _, rfl, _⟩ := h; rfl; done) | (obtain ⟨_, _, _, _, _, _, _, _, _, _, _, rfl, _⟩ := h; rfl; done) | ((rcases h with h | h <;> first | (exact h.elim) | (obtain ⟨rfl, _⟩ := h; rfl; done) | (obtain ⟨_, rfl, _⟩ := h; rfl; done) | (obtain ⟨_, _, rfl, _⟩ := h; rfl; done) | (obtain ⟨_, _, _, rfl, _⟩ := h; rfl; done) | (obtain ⟨_, _, _, _, rfl, _⟩ := h; rfl; done) | (obtain ⟨_, _, _, _, _, rfl, _⟩ := h; rfl; done) | (obtain ⟨_, _, _, _, _, _, rfl, _⟩ := h; rfl; done) | (obtain ⟨_, _, _, _, _, _, _, rfl, _⟩ := h; rfl; done) | (obtain ⟨_, _, _, _, _, _, _, _, rfl, _⟩ := h; rfl; done) | (obtain ⟨_, _, _, _, _, _, _, _, _, rfl, _⟩ := h; rfl; done) | (obtain ⟨_, _, _, _, _, _, _, _, _, _, rfl, _⟩ := h; rfl; done) | (obtain ⟨_, _, _, _, _, _, _, _, _, _, _, rfl, _⟩ := h; rfl; done)); done)
theorem ok_ways_with (T : Txt K mg A) : FnOk P w K mg base (L2.CX P w) 2 A.a_ways_with A.d_ways_with ["sizes", "seat"] (toSp K sp_ways_with) :=
  fn_z (k := 1) T.D_ways_with.F sc_ways_with len_ways_with r_ways_with (fun cdv A_ outer s H E G B Wz C =>
  (zs_cons (s_if (t_cmp (oz_eq C.room.units) (nomark _) (z_ix (z_var 0) (z_var 1)) z_int) (zs_one (s_ret z_int)) zs_nil)
  (zs_one (s_ret (z_call C (ok_ways T) (by decide) T.D_ways.m T.D_ways.F.kp T.D_ways.b (za_cons (z_lc (own := [("k", 2)]) C (zi_range1 T.x_range (za_cons (z_callB cz_len (by rfl) T.x_len (by decide +kernel) (za_cons (z_var 0) za_nil)) za_nil)) (blkOk_by (N := N_ways_with) (sc := defScope s_ways_with) (by decide +kernel)) (fun s H C_ cl fp B_ C => (gc_name C.nd)) (fun s H C_ cl fp B_ C => ts_nil) (fun s H C_ cl fp B_ C => (z_bin oz_sub (z_ix (z_var 0) (z_var 2)) (z_callTy cz_int (by rfl) T.x_int (by decide +kernel) (za_cons (z_cmp (oz_eq C.room.units) (nomark _) (z_var 2) (z_var 1)) za_nil))))) za_nil)))))) read_ways_with
theorem len_share : ∀ ds Q E, sp_share ds Q E → ds.length = ["cards", "sizes", "number"].length := by
  intro ds Q E h
  first | (exact h.elim) | (obtain ⟨rfl, _⟩ := h; rfl; done) | (obtain ⟨_, rfl, _⟩ := h; rfl; done) | (obtain ⟨_, _, rfl, _⟩ := h; rfl; done) | (obtain ⟨_, _, _, rfl, _⟩ := h; rfl; done) | (obtain ⟨_, _, _, _, rfl, _⟩ := h; rfl; done) | (obtain ⟨_, _, _, _, _, rfl, _⟩ := h; rfl; done) | (obtain ⟨_, _, _, _, _, _, rfl, _⟩ := h; rfl; done) | (obtain ⟨_, _, _, _, _, _, _, rfl, _⟩ := h; rfl; done) | (obtain ⟨_, _, _, _, _, _, _, _, rfl, _⟩ := h; rfl; done) | (obtain ⟨_, _, _, _, _, _, _, _, _, rfl, _⟩ := h; rfl; done) | (obtain ⟨_, _, _, _, _, _, _, _, _, _, rfl, _⟩ := h; rfl; done) | (obtain ⟨_, _, _, _, _, _, _, _, _, _, _, rfl, _⟩ := h; rfl; done) | ((rcases h with h | h <;> first | (exact h.elim) | (obtain ⟨rfl, _⟩ := h; rfl; done) | (obtain ⟨_, rfl, _⟩ := h; rfl; done) | (obtain ⟨_, _, rfl, _⟩ := h; rfl; done) | (obtain ⟨_, _, _, rfl, _⟩ := h; rfl; done) | (obtain ⟨_, _, _, _, rfl, _⟩ := h; rfl; done) | (obtain ⟨_, _, _, _, _, rfl, _⟩ := h; rfl; done) | (obtain ⟨_, _, _, _, _, _, rfl, _⟩ := h; rfl; done) | (obtain ⟨_, _, _, _, _, _, _, rfl, _⟩ := h; rfl; done) | (obtain ⟨_, _, _, _, _, _, _, _, rfl, _⟩ := h; rfl; done) | (obtain ⟨_, _, _, _, _, _, _, _, _, rfl, _⟩ := h; rfl; done) | (obtain ⟨_, _, _, _, _, _, _, _, _, _, rfl, _⟩ := h; rfl; done) | (obtain ⟨_, _, _, _, _, _, _, _, _, _, _, rfl, _⟩ := h; rfl; done)); done)
theorem ok_share (T : Txt K mg A) : FnOk P w K mg base (L2.CX P w) 3 A.a_share A.d_share ["cards", "sizes", "number"] (toSp K sp_share) :=
  fn_z (k := 2) T.D_share.F sc_share len_share r_share (fun cdv A_ outer s H E G B Wz C =>
  (zs_cons (s_if (t_w (w_or (t_cmp (oz_ne C.room.units) (nomark _) (z_callB (cz_sum C.calm) (by rfl) T.x_sum (by decide +kernel) (za_cons (z_var 1) za_nil)) (z_callB cz_len (by rfl) T.x_len (by decide +kernel) (za_cons (z_var 0) za_nil))) (w_or (t_cmp (oz_ltX C.room.units) (nomark _) (z_var 2) z_int) (w_or1 (t_cmp oz_ge (nomark _) (z_var 2) (z_call C (ok_ways T) (by decide) T.D_ways.m T.D_ways.F.kp T.D_ways.b (za_cons (z_var 1) za_nil))))))) (zs_one (s_raise (c := c_NoShare) C T.E_NoShare)) zs_nil)
  (zs_cons (s_set (i := 1) C.nd (z_callTy cz_list (by rfl) T.x_list (by decide +kernel) (za_cons (z_var 1) za_nil)))
  (zs_cons (s_set (i := 3) C.nd (z_rep (z_lst (zd_cons z_int zd_nil)) (fun _ => (z_callB cz_len (by rfl) T.x_len (by decide +kernel) (za_cons (z_var 1) za_nil)))))
  (zs_cons (s_for C (zi_seq (z_var 0)) (g_name C.nd) (zs_cons (s_set (i := 5) C.nd z_int)
  (zs_cons (s_while C (t_cmp oz_ge (nomark _) (z_var 2) (z_call C (ok_ways_with T) (by decide) T.D_ways_with.m T.D_ways_with.F.kp T.D_ways_with.b (za_cons (z_var 1) (za_cons (z_var 5) za_nil)))) (zs_cons (s_set (i := 2) C.nd (z_bin oz_sub (z_var 2) (z_call C (ok_ways_with T) (by decide) T.D_ways_with.m T.D_ways_with.F.kp T.D_ways_with.b (za_cons (z_var 1) (za_cons (z_var 5) za_nil)))))
  (zs_one (s_set (i := 5) C.nd (z_bin oz_add (z_var 5) z_int)))))
  (zs_cons (s_asg (z_bin oz_sub (z_ix (z_var 1) (z_var 5)) z_int) (g_subL (z_var 1) (z_var 5)))
  (zs_one (s_asg (z_bin oz_or (z_ix (z_var 3) (z_var 5)) (z_bin oz_shl z_int (z_var 4))) (g_subL (z_var 3) (z_var 5))))))))
  (zs_one (s_ret (z_var 3)))))))) read_share
theorem len_law_owners : ∀ ds Q E, sp_law_owners ds Q E → ds.length = ["_law_cards", "_law_sizes_here", "_law_hands"].length := by
  intro ds Q E h
  first | (exact h.elim) | (obtain ⟨rfl, _⟩ := h; rfl; done) | (obtain ⟨_, rfl, _⟩ := h; rfl; done) | (obtain ⟨_, _, rfl, _⟩ := h; rfl; done) | (obtain ⟨_, _, _, rfl, _⟩ := h; rfl; done) | (obtain ⟨_, _, _, _, rfl, _⟩ := h; rfl; done) | (obtain ⟨_, _, _, _, _, rfl, _⟩ := h; rfl; done) | (obtain ⟨_, _, _, _, _, _, rfl, _⟩ := h; rfl; done) | (obtain ⟨_, _, _, _, _, _, _, rfl, _⟩ := h; rfl; done) | (obtain ⟨_, _, _, _, _, _, _, _, rfl, _⟩ := h; rfl; done) | (obtain ⟨_, _, _, _, _, _, _, _, _, rfl, _⟩ := h; rfl; done) | (obtain ⟨_, _, _, _, _, _, _, _, _, _, rfl, _⟩ := h; rfl; done) | (obtain ⟨_, _, _, _, _, _, _, _, _, _, _, rfl, _⟩ := h; rfl; done) | ((rcases h with h | h <;> first | (exact h.elim) | (obtain ⟨rfl, _⟩ := h; rfl; done) | (obtain ⟨_, rfl, _⟩ := h; rfl; done) | (obtain ⟨_, _, rfl, _⟩ := h; rfl; done) | (obtain ⟨_, _, _, rfl, _⟩ := h; rfl; done) | (obtain ⟨_, _, _, _, rfl, _⟩ := h; rfl; done) | (obtain ⟨_, _, _, _, _, rfl, _⟩ := h; rfl; done) | (obtain ⟨_, _, _, _, _, _, rfl, _⟩ := h; rfl; done) | (obtain ⟨_, _, _, _, _, _, _, rfl, _⟩ := h; rfl; done) | (obtain ⟨_, _, _, _, _, _, _, _, rfl, _⟩ := h; rfl; done) | (obtain ⟨_, _, _, _, _, _, _, _, _, rfl, _⟩ := h; rfl; done) | (obtain ⟨_, _, _, _, _, _, _, _, _, _, rfl, _⟩ := h; rfl; done) | (obtain ⟨_, _, _, _, _, _, _, _, _, _, _, rfl, _⟩ := h; rfl; done)); done)
theorem ok_law_owners (T : Txt K mg A) : FnOk P w K mg base (L2.CX P w) 2 A.a_law_owners A.d_law_owners ["_law_cards", "_law_sizes_here", "_law_hands"] (toSp K sp_law_owners) :=
  fn_z (k := 1) T.D_law_owners.F sc_law_owners len_law_owners r_law_owners (fun cdv A_ outer s H E G B Wz C =>
  (zs_cons (s_if (t_w (w_or (t_not (t_val (z_isi .list (z_var 2) (by rfl) T.x_isinstance (by rfl) T.x_list (by decide +kernel) (by decide) (by decide)))) (w_or (t_cmp (oz_ne C.room.units) (nomark _) (z_callB cz_len (by rfl) T.x_len (by decide +kernel) (za_cons (z_var 2) za_nil)) (z_callB cz_len (by rfl) T.x_len (by decide +kernel) (za_cons (z_var 1) za_nil))) (w_or1 (t_not (t_val (z_callB (cz_all C.calm) (by rfl) T.x_all (by decide +kernel) (za_cons (z_lcV (v0 := 2) (own := [("_law_hand", 3)]) (ok := blkOk_by (N := N_law_owners) (sc := defScope s_law_owners) (by decide +kernel)) (hg := fun s H C_ cl fp B_ C => (gc_name C.nd)) (ht := fun s H C_ cl fp B_ C => ts_nil) (he := fun s H C_ cl fp B_ C => (z_call C (ok_law_whole T) (by decide) T.D_law_whole.m T.D_law_whole.F.kp T.D_law_whole.b (za_cons (z_var 3) za_nil))) C) za_nil)))))))) (zs_one (s_ret z_non)) zs_nil)
  (zs_cons (s_if (t_cmp (oz_ne C.room.units) (nomark _) (z_callB (cz_sum C.calm) (by rfl) T.x_sum (by decide +kernel) (za_cons (z_var 2) za_nil)) (z_callB (cz_sum C.calm) (by rfl) T.x_sum (by decide +kernel) (za_cons (z_lcV (v0 := 0) (own := [("_law_card", 4)]) (ok := blkOk_by (N := N_law_owners) (sc := defScope s_law_owners) (by decide +kernel)) (hg := fun s H C_ cl fp B_ C => (gc_name C.nd)) (ht := fun s H C_ cl fp B_ C => ts_nil) (he := fun s H C_ cl fp B_ C => (z_bin oz_shl z_int (z_var 4))) C) za_nil))) (zs_one (s_ret z_non)) zs_nil)
  (zs_cons (s_set (i := 5) C.nd (z_lst zd_nil))
  (zs_cons (s_for C (zi_seq (z_var 0)) (g_name C.nd) (zs_cons (s_setLc (i := 6) (own := [("_law_seat", 7)]) C (zi_range1 T.x_range (za_cons (z_callB cz_len (by rfl) T.x_len (by decide +kernel) (za_cons (z_var 2) za_nil)) za_nil)) (blkOk_by (N := N_law_owners) (sc := defScope s_law_owners) (by decide +kernel)) (fun s H C_ cl fp B_ C => (gc_name C.nd)) (fun s H C_ cl fp B_ C => (ts_one (t_cmp (oz_eq C.room.units) (nomark _) (z_bin oz_mod (z_bin oz_fdiv (z_ix (z_var 2) (z_var 7)) (z_bin oz_shl z_int (z_var 4))) z_int) z_int))) (fun s H C_ cl fp B_ C => (z_var 7)) (sw_true rfl rfl rfl (by decide +kernel)))
  (zs_cons (s_if (t_cmp (oz_ne C.room.units) (nomark _) (z_callB cz_len (by rfl) T.x_len (by decide +kernel) (za_cons (z_var 6) za_nil)) z_int) (zs_one (s_ret z_non)) zs_nil)
  (zs_one (s_expr (z_met 5 mz_append PySem.F.plainAttrs_list PySem.F.slot_list_append PySem.F.type_list_append (zd_cons (z_ix (z_var 6) z_int) zd_nil)))))))
  (zs_cons (s_if (t_cmp (oz_ne C.room.units) (nomark _) (z_lc (own := [("_law_seat", 7)]) C (zi_range1 T.x_range (za_cons (z_callB cz_len (by rfl) T.x_len (by decide +kernel) (za_cons (z_var 1) za_nil)) za_nil)) (blkOk_by (N := N_law_owners) (sc := defScope s_law_owners) (by decide +kernel)) (fun s H C_ cl fp B_ C => (gc_name C.nd)) (fun s H C_ cl fp B_ C => ts_nil) (fun s H C_ cl fp B_ C => (z_mq 0 mq_count PySem.F.plainAttrs_list PySem.F.slot_list_count PySem.F.type_list_count (z_var 5) (za_cons (z_var 7) za_nil)))) (z_var 1)) (zs_one (s_ret z_non)) zs_nil)
  (zs_one (s_ret (z_var 5))))))))) read_law_owners
theorem len_many : ∀ ds Q E, sp_many ds Q E → ds.length = ["hand"].length := by
  intro ds Q E h
  first | (exact h.elim) | (obtain ⟨rfl, _⟩ := h; rfl; done) | (obtain ⟨_, rfl, _⟩ := h; rfl; done) | (obtain ⟨_, _, rfl, _⟩ := h; rfl; done) | (obtain ⟨_, _, _, rfl, _⟩ := h; rfl; done) | (obtain ⟨_, _, _, _, rfl, _⟩ := h; rfl; done) | (obtain ⟨_, _, _, _, _, rfl, _⟩ := h; rfl; done) | (obtain ⟨_, _, _, _, _, _, rfl, _⟩ := h; rfl; done) | (obtain ⟨_, _, _, _, _, _, _, rfl, _⟩ := h; rfl; done) | (obtain ⟨_, _, _, _, _, _, _, _, rfl, _⟩ := h; rfl; done) | (obtain ⟨_, _, _, _, _, _, _, _, _, rfl, _⟩ := h; rfl; done) | (obtain ⟨_, _, _, _, _, _, _, _, _, _, rfl, _⟩ := h; rfl; done) | (obtain ⟨_, _, _, _, _, _, _, _, _, _, _, rfl, _⟩ := h; rfl; done) | ((rcases h with h | h <;> first | (exact h.elim) | (obtain ⟨rfl, _⟩ := h; rfl; done) | (obtain ⟨_, rfl, _⟩ := h; rfl; done) | (obtain ⟨_, _, rfl, _⟩ := h; rfl; done) | (obtain ⟨_, _, _, rfl, _⟩ := h; rfl; done) | (obtain ⟨_, _, _, _, rfl, _⟩ := h; rfl; done) | (obtain ⟨_, _, _, _, _, rfl, _⟩ := h; rfl; done) | (obtain ⟨_, _, _, _, _, _, rfl, _⟩ := h; rfl; done) | (obtain ⟨_, _, _, _, _, _, _, rfl, _⟩ := h; rfl; done) | (obtain ⟨_, _, _, _, _, _, _, _, rfl, _⟩ := h; rfl; done) | (obtain ⟨_, _, _, _, _, _, _, _, _, rfl, _⟩ := h; rfl; done) | (obtain ⟨_, _, _, _, _, _, _, _, _, _, rfl, _⟩ := h; rfl; done) | (obtain ⟨_, _, _, _, _, _, _, _, _, _, _, rfl, _⟩ := h; rfl; done)); done)
theorem ok_many (T : Txt K mg A) : FnOk P w K mg base (L2.CX P w) 1 A.a_many A.d_many ["hand"] (toSp K sp_many) :=
  fn_z (k := 0) T.D_many.F sc_many len_many r_many (fun cdv A_ outer s H E G B Wz C =>
  (zs_cons (s_set (i := 1) C.nd z_int)
  (zs_cons (s_while C (t_cmp (oz_gtX C.room.units) (nomark _) (z_var 0) z_int) (zs_cons (s_set (i := 0) C.nd (z_bin oz_and (z_var 0) (z_bin oz_sub (z_var 0) z_int)))
  (zs_one (s_set (i := 1) C.nd (z_bin oz_add (z_var 1) z_int)))))
  (zs_one (s_ret (z_var 1)))))) read_many
theorem len_number_of : ∀ ds Q E, sp_number_of ds Q E → ds.length = ["cards", "hands"].length := by
  intro ds Q E h
  first | (exact h.elim) | (obtain ⟨rfl, _⟩ := h; rfl; done) | (obtain ⟨_, rfl, _⟩ := h; rfl; done) | (obtain ⟨_, _, rfl, _⟩ := h; rfl; done) | (obtain ⟨_, _, _, rfl, _⟩ := h; rfl; done) | (obtain ⟨_, _, _, _, rfl, _⟩ := h; rfl; done) | (obtain ⟨_, _, _, _, _, rfl, _⟩ := h; rfl; done) | (obtain ⟨_, _, _, _, _, _, rfl, _⟩ := h; rfl; done) | (obtain ⟨_, _, _, _, _, _, _, rfl, _⟩ := h; rfl; done) | (obtain ⟨_, _, _, _, _, _, _, _, rfl, _⟩ := h; rfl; done) | (obtain ⟨_, _, _, _, _, _, _, _, _, rfl, _⟩ := h; rfl; done) | (obtain ⟨_, _, _, _, _, _, _, _, _, _, rfl, _⟩ := h; rfl; done) | (obtain ⟨_, _, _, _, _, _, _, _, _, _, _, rfl, _⟩ := h; rfl; done) | ((rcases h with h | h <;> first | (exact h.elim) | (obtain ⟨rfl, _⟩ := h; rfl; done) | (obtain ⟨_, rfl, _⟩ := h; rfl; done) | (obtain ⟨_, _, rfl, _⟩ := h; rfl; done) | (obtain ⟨_, _, _, rfl, _⟩ := h; rfl; done) | (obtain ⟨_, _, _, _, rfl, _⟩ := h; rfl; done) | (obtain ⟨_, _, _, _, _, rfl, _⟩ := h; rfl; done) | (obtain ⟨_, _, _, _, _, _, rfl, _⟩ := h; rfl; done) | (obtain ⟨_, _, _, _, _, _, _, rfl, _⟩ := h; rfl; done) | (obtain ⟨_, _, _, _, _, _, _, _, rfl, _⟩ := h; rfl; done) | (obtain ⟨_, _, _, _, _, _, _, _, _, rfl, _⟩ := h; rfl; done) | (obtain ⟨_, _, _, _, _, _, _, _, _, _, rfl, _⟩ := h; rfl; done) | (obtain ⟨_, _, _, _, _, _, _, _, _, _, _, rfl, _⟩ := h; rfl; done)); done)
theorem ok_number_of (T : Txt K mg A) : FnOk P w K mg base (L2.CX P w) 3 A.a_number_of A.d_number_of ["cards", "hands"] (toSp K sp_number_of) :=
  fn_z (k := 2) T.D_number_of.F sc_number_of len_number_of r_number_of (fun cdv A_ outer s H E G B Wz C =>
  (zs_cons (s_setLcV (i := 2) (hsw := sw_true rfl rfl rfl (by decide +kernel)) (v0 := 1) (own := [("hand", 3)]) (ok := blkOk_by (N := N_number_of) (sc := defScope s_number_of) (by decide +kernel)) (hg := fun s H C_ cl fp B_ C => (gc_name C.nd)) (ht := fun s H C_ cl fp B_ C => ts_nil) (he := fun s H C_ cl fp B_ C => (z_call C (ok_many T) (by decide) T.D_many.m T.D_many.F.kp T.D_many.b (za_cons (z_var 3) za_nil))) C)
  (zs_cons (s_set (i := 4) C.nd z_int)
  (zs_cons (s_for C (zi_seq (z_var 0)) (g_name C.nd) (zs_cons (s_set (i := 6) C.nd z_int)
  (zs_cons (s_while C (t_cmp (oz_eq C.room.units) (nomark _) (z_bin oz_and (z_bin oz_shr (z_ix (z_var 1) (z_var 6)) (z_var 5)) z_int) z_int) (zs_cons (s_set (i := 4) C.nd (z_bin oz_add (z_var 4) (z_call C (ok_ways_with T) (by decide) T.D_ways_with.m T.D_ways_with.F.kp T.D_ways_with.b (za_cons (z_var 2) (za_cons (z_var 6) za_nil)))))
  (zs_one (s_set (i := 6) C.nd (z_bin oz_add (z_var 6) z_int)))))
  (zs_one (s_asg (z_bin oz_sub (z_ix (z_var 2) (z_var 6)) z_int) (g_subL (z_var 2) (z_var 6)))))))
  (zs_one (s_ret (z_var 4))))))) read_number_of
theorem len_law_other : ∀ ds Q E, sp_law_other ds Q E → ds.length = ["_law_caught"].length := by
  intro ds Q E h
  first | (exact h.elim) | (obtain ⟨rfl, _⟩ := h; rfl; done) | (obtain ⟨_, rfl, _⟩ := h; rfl; done) | (obtain ⟨_, _, rfl, _⟩ := h; rfl; done) | (obtain ⟨_, _, _, rfl, _⟩ := h; rfl; done) | (obtain ⟨_, _, _, _, rfl, _⟩ := h; rfl; done) | (obtain ⟨_, _, _, _, _, rfl, _⟩ := h; rfl; done) | (obtain ⟨_, _, _, _, _, _, rfl, _⟩ := h; rfl; done) | (obtain ⟨_, _, _, _, _, _, _, rfl, _⟩ := h; rfl; done) | (obtain ⟨_, _, _, _, _, _, _, _, rfl, _⟩ := h; rfl; done) | (obtain ⟨_, _, _, _, _, _, _, _, _, rfl, _⟩ := h; rfl; done) | (obtain ⟨_, _, _, _, _, _, _, _, _, _, rfl, _⟩ := h; rfl; done) | (obtain ⟨_, _, _, _, _, _, _, _, _, _, _, rfl, _⟩ := h; rfl; done) | ((rcases h with h | h <;> first | (exact h.elim) | (obtain ⟨rfl, _⟩ := h; rfl; done) | (obtain ⟨_, rfl, _⟩ := h; rfl; done) | (obtain ⟨_, _, rfl, _⟩ := h; rfl; done) | (obtain ⟨_, _, _, rfl, _⟩ := h; rfl; done) | (obtain ⟨_, _, _, _, rfl, _⟩ := h; rfl; done) | (obtain ⟨_, _, _, _, _, rfl, _⟩ := h; rfl; done) | (obtain ⟨_, _, _, _, _, _, rfl, _⟩ := h; rfl; done) | (obtain ⟨_, _, _, _, _, _, _, rfl, _⟩ := h; rfl; done) | (obtain ⟨_, _, _, _, _, _, _, _, rfl, _⟩ := h; rfl; done) | (obtain ⟨_, _, _, _, _, _, _, _, _, rfl, _⟩ := h; rfl; done) | (obtain ⟨_, _, _, _, _, _, _, _, _, _, rfl, _⟩ := h; rfl; done) | (obtain ⟨_, _, _, _, _, _, _, _, _, _, _, rfl, _⟩ := h; rfl; done)); done)
theorem ok_law_other (T : Txt K mg A) : FnOk P w K mg base (L2.CX P w) 1 A.a_law_other A.d_law_other ["_law_caught"] (toSp K sp_law_other) :=
  fn_z (k := 0) T.D_law_other.F sc_law_other len_law_other r_law_other (fun cdv A_ outer s H E G B Wz C =>
  (zs_one (s_ret (z_or (z_isO (z_var 0) (.exc T.ty_NoShare .nil) (.cons T.kt_NoShare_NoDeal .nil) (by rfl) T.x_isinstance (.own T.C_NoDeal (by rfl) T.mg_NoDeal (by decide) (by rfl) .nil)) (z_one (z_isO (z_var 0) (.exc T.ty_NoShare .nil) (.cons T.kt_NoShare_NoHand .nil) (by rfl) T.x_isinstance (.own T.C_NoHand (by rfl) T.mg_NoHand (by decide) (by rfl) .nil))))))) read_law_other
theorem len_law_refusal : ∀ ds Q E, sp_law_refusal ds Q E → ds.length = ["_law_caught"].length := by
  intro ds Q E h
  first | (exact h.elim) | (obtain ⟨rfl, _⟩ := h; rfl; done) | (obtain ⟨_, rfl, _⟩ := h; rfl; done) | (obtain ⟨_, _, rfl, _⟩ := h; rfl; done) | (obtain ⟨_, _, _, rfl, _⟩ := h; rfl; done) | (obtain ⟨_, _, _, _, rfl, _⟩ := h; rfl; done) | (obtain ⟨_, _, _, _, _, rfl, _⟩ := h; rfl; done) | (obtain ⟨_, _, _, _, _, _, rfl, _⟩ := h; rfl; done) | (obtain ⟨_, _, _, _, _, _, _, rfl, _⟩ := h; rfl; done) | (obtain ⟨_, _, _, _, _, _, _, _, rfl, _⟩ := h; rfl; done) | (obtain ⟨_, _, _, _, _, _, _, _, _, rfl, _⟩ := h; rfl; done) | (obtain ⟨_, _, _, _, _, _, _, _, _, _, rfl, _⟩ := h; rfl; done) | (obtain ⟨_, _, _, _, _, _, _, _, _, _, _, rfl, _⟩ := h; rfl; done) | ((rcases h with h | h <;> first | (exact h.elim) | (obtain ⟨rfl, _⟩ := h; rfl; done) | (obtain ⟨_, rfl, _⟩ := h; rfl; done) | (obtain ⟨_, _, rfl, _⟩ := h; rfl; done) | (obtain ⟨_, _, _, rfl, _⟩ := h; rfl; done) | (obtain ⟨_, _, _, _, rfl, _⟩ := h; rfl; done) | (obtain ⟨_, _, _, _, _, rfl, _⟩ := h; rfl; done) | (obtain ⟨_, _, _, _, _, _, rfl, _⟩ := h; rfl; done) | (obtain ⟨_, _, _, _, _, _, _, rfl, _⟩ := h; rfl; done) | (obtain ⟨_, _, _, _, _, _, _, _, rfl, _⟩ := h; rfl; done) | (obtain ⟨_, _, _, _, _, _, _, _, _, rfl, _⟩ := h; rfl; done) | (obtain ⟨_, _, _, _, _, _, _, _, _, _, rfl, _⟩ := h; rfl; done) | (obtain ⟨_, _, _, _, _, _, _, _, _, _, _, rfl, _⟩ := h; rfl; done)); done)
theorem ok_law_refusal (T : Txt K mg A) : FnOk P w K mg base (L2.CX P w) 2 A.a_law_refusal A.d_law_refusal ["_law_caught"] (toSp K sp_law_refusal) :=
  fn_z (k := 1) T.D_law_refusal.F sc_law_refusal len_law_refusal r_law_refusal (fun cdv A_ outer s H E G B Wz C =>
  (zs_cons (s_if (t_w (w_or (t_cmp oz_is (nomark _) (z_var 0) z_non) (w_or1 (t_not (t_val (z_isO (z_var 0) (.exc T.ty_NoShare .nil) (.cons T.kt_NoShare_NoShare .nil) (by rfl) T.x_isinstance (.own T.C_NoShare (by rfl) T.mg_NoShare (by decide) (by rfl) .nil))))))) (zs_one (s_ret z_bl)) zs_nil)
  (zs_one (s_ret (z_and (z_isO (z_var 0) (.exc T.ty_NoShare .nil) (.cons T.kt_NoShare_ValueError .nil) (by rfl) T.x_isinstance (.ty (by rfl) T.x_ValueError (by decide +kernel) (by decide) (by decide) (by rfl) .nil)) (z_one (z_not (z_call C (ok_law_other T) (by decide) T.D_law_other.m T.D_law_other.F.kp T.D_law_other.b (za_cons (z_var 0) za_nil))))))))) read_law_refusal
theorem len_law_refused : ∀ ds Q E, sp_law_refused ds Q E → ds.length = ["_law_cards", "_law_sizes_here", "_law_number"].length := by
  intro ds Q E h
  first | (exact h.elim) | (obtain ⟨rfl, _⟩ := h; rfl; done) | (obtain ⟨_, rfl, _⟩ := h; rfl; done) | (obtain ⟨_, _, rfl, _⟩ := h; rfl; done) | (obtain ⟨_, _, _, rfl, _⟩ := h; rfl; done) | (obtain ⟨_, _, _, _, rfl, _⟩ := h; rfl; done) | (obtain ⟨_, _, _, _, _, rfl, _⟩ := h; rfl; done) | (obtain ⟨_, _, _, _, _, _, rfl, _⟩ := h; rfl; done) | (obtain ⟨_, _, _, _, _, _, _, rfl, _⟩ := h; rfl; done) | (obtain ⟨_, _, _, _, _, _, _, _, rfl, _⟩ := h; rfl; done) | (obtain ⟨_, _, _, _, _, _, _, _, _, rfl, _⟩ := h; rfl; done) | (obtain ⟨_, _, _, _, _, _, _, _, _, _, rfl, _⟩ := h; rfl; done) | (obtain ⟨_, _, _, _, _, _, _, _, _, _, _, rfl, _⟩ := h; rfl; done) | ((rcases h with h | h <;> first | (exact h.elim) | (obtain ⟨rfl, _⟩ := h; rfl; done) | (obtain ⟨_, rfl, _⟩ := h; rfl; done) | (obtain ⟨_, _, rfl, _⟩ := h; rfl; done) | (obtain ⟨_, _, _, rfl, _⟩ := h; rfl; done) | (obtain ⟨_, _, _, _, rfl, _⟩ := h; rfl; done) | (obtain ⟨_, _, _, _, _, rfl, _⟩ := h; rfl; done) | (obtain ⟨_, _, _, _, _, _, rfl, _⟩ := h; rfl; done) | (obtain ⟨_, _, _, _, _, _, _, rfl, _⟩ := h; rfl; done) | (obtain ⟨_, _, _, _, _, _, _, _, rfl, _⟩ := h; rfl; done) | (obtain ⟨_, _, _, _, _, _, _, _, _, rfl, _⟩ := h; rfl; done) | (obtain ⟨_, _, _, _, _, _, _, _, _, _, rfl, _⟩ := h; rfl; done) | (obtain ⟨_, _, _, _, _, _, _, _, _, _, _, rfl, _⟩ := h; rfl; done)); done)
theorem ok_law_refused (T : Txt K mg A) : FnOk P w K mg base (L2.CX P w) 4 A.a_law_refused A.d_law_refused ["_law_cards", "_law_sizes_here", "_law_number"] (toSp K sp_law_refused) :=
  fn_z (k := 3) T.D_law_refused.F sc_law_refused len_law_refused r_law_refused (fun cdv A_ outer s H E G B Wz C =>
  (zs_cons (s_set (i := 3) C.nd z_non)
  (zs_cons (s_try (c := c_TrickError) (i := 4) C ⟨_, T.C_TrickError, T.mg_TrickError⟩ (.cons T.xm_NoShare_TrickError .nil) (fun pn xe B_ Wz_ C => (zs_one (s_expr (z_call C (ok_share T) (by decide) T.D_share.m T.D_share.F.kp T.D_share.b (za_cons (z_callTy cz_list (by rfl) T.x_list (by decide +kernel) (za_cons (z_var 0) za_nil)) (za_cons (z_callTy cz_list (by rfl) T.x_list (by decide +kernel) (za_cons (z_var 1) za_nil)) (za_cons (z_var 2) za_nil))))))) (fun a_ pn => (zs_one (s_set (i := 3) C.nd (z_var 4)))))
  (zs_one (s_ret (z_call C (ok_law_refusal T) (by decide) T.D_law_refusal.m T.D_law_refusal.F.kp T.D_law_refusal.b (za_cons (z_var 3) za_nil))))))) read_law_refused
theorem len_law : ∀ ds Q E, sp_law ds Q E → ds.length = ["_law_script"].length := by
  intro ds Q E h
  first | (exact h.elim) | (obtain ⟨rfl, _⟩ := h; rfl; done) | (obtain ⟨_, rfl, _⟩ := h; rfl; done) | (obtain ⟨_, _, rfl, _⟩ := h; rfl; done) | (obtain ⟨_, _, _, rfl, _⟩ := h; rfl; done) | (obtain ⟨_, _, _, _, rfl, _⟩ := h; rfl; done) | (obtain ⟨_, _, _, _, _, rfl, _⟩ := h; rfl; done) | (obtain ⟨_, _, _, _, _, _, rfl, _⟩ := h; rfl; done) | (obtain ⟨_, _, _, _, _, _, _, rfl, _⟩ := h; rfl; done) | (obtain ⟨_, _, _, _, _, _, _, _, rfl, _⟩ := h; rfl; done) | (obtain ⟨_, _, _, _, _, _, _, _, _, rfl, _⟩ := h; rfl; done) | (obtain ⟨_, _, _, _, _, _, _, _, _, _, rfl, _⟩ := h; rfl; done) | (obtain ⟨_, _, _, _, _, _, _, _, _, _, _, rfl, _⟩ := h; rfl; done) | ((rcases h with h | h <;> first | (exact h.elim) | (obtain ⟨rfl, _⟩ := h; rfl; done) | (obtain ⟨_, rfl, _⟩ := h; rfl; done) | (obtain ⟨_, _, rfl, _⟩ := h; rfl; done) | (obtain ⟨_, _, _, rfl, _⟩ := h; rfl; done) | (obtain ⟨_, _, _, _, rfl, _⟩ := h; rfl; done) | (obtain ⟨_, _, _, _, _, rfl, _⟩ := h; rfl; done) | (obtain ⟨_, _, _, _, _, _, rfl, _⟩ := h; rfl; done) | (obtain ⟨_, _, _, _, _, _, _, rfl, _⟩ := h; rfl; done) | (obtain ⟨_, _, _, _, _, _, _, _, rfl, _⟩ := h; rfl; done) | (obtain ⟨_, _, _, _, _, _, _, _, _, rfl, _⟩ := h; rfl; done) | (obtain ⟨_, _, _, _, _, _, _, _, _, _, rfl, _⟩ := h; rfl; done) | (obtain ⟨_, _, _, _, _, _, _, _, _, _, _, rfl, _⟩ := h; rfl; done)); done)
theorem ok_law (T : Txt K mg A) : FnOk P w K mg base (L2.CX P w) 5 A.a_law A.d_law ["_law_script"] (toSp K sp_law) :=
  fn_z (k := 4) T.D_law.F sc_law len_law r_law (fun cdv A_ outer s H E G B Wz C =>
  (zs_cons (s_set (i := 1) C.nd (z_call C (ok_law_sizes T) (by decide) T.D_law_sizes.m T.D_law_sizes.F.kp T.D_law_sizes.b (za_cons (z_var 0) (za_cons z_int za_nil))))
  (zs_cons (s_set (i := 2) C.nd (z_call C (ok_law_pack T) (by decide) T.D_law_pack.m T.D_law_pack.F.kp T.D_law_pack.b (za_cons (z_var 0) (za_cons (z_callB (cz_sum C.calm) (by rfl) T.x_sum (by decide +kernel) (za_cons (z_var 1) za_nil)) za_nil))))
  (zs_cons (s_set (i := 3) C.nd (z_callTy cz_list (by rfl) T.x_list (by decide +kernel) (za_cons (z_var 1) za_nil)))
  (zs_cons (s_set (i := 4) C.nd (z_call C (ok_ways T) (by decide) T.D_ways.m T.D_ways.F.kp T.D_ways.b (za_cons (z_var 3) za_nil)))
  (zs_cons (s_if (t_w (w_or (t_not (t_val (z_call C (ok_law_whole T) (by decide) T.D_law_whole.m T.D_law_whole.F.kp T.D_law_whole.b (za_cons (z_var 4) za_nil)))) (w_or (t_cmp (oz_ltX C.room.units) (nomark _) (z_var 4) z_int) (w_or (t_cmp (oz_ne C.room.units) (nomark _) (z_var 3) (z_var 1)) (w_or1 (t_cmp (oz_ne C.room.units) (nomark _) (z_var 4) (z_call C (ok_law_added T) (by decide) T.D_law_added.m T.D_law_added.F.kp T.D_law_added.b (za_cons (z_var 1) za_nil)))))))) (zs_one (s_ret z_bl)) zs_nil)
  (zs_cons (s_set (i := 5) C.nd (z_ix (z_lst (zd_cons z_int (zd_cons (z_bin oz_sub (z_var 4) z_int) zd_nil))) (z_bin oz_mod (z_call C (ok_law_mixed T) (by decide) T.D_law_mixed.m T.D_law_mixed.F.kp T.D_law_mixed.b (za_cons (z_var 0) (za_cons z_int za_nil))) z_int)))
  (zs_cons (s_if (t_cmp (oz_gtX C.room.units) (nomark _) (z_bin oz_mod (z_call C (ok_law_mixed T) (by decide) T.D_law_mixed.m T.D_law_mixed.F.kp T.D_law_mixed.b (za_cons (z_var 0) (za_cons z_int za_nil))) z_int) z_int) (zs_one (s_set (i := 5) C.nd (z_bin oz_mod (z_call C (ok_law_mixed T) (by decide) T.D_law_mixed.m T.D_law_mixed.F.kp T.D_law_mixed.b (za_cons (z_var 0) (za_cons z_int za_nil))) (z_var 4)))) zs_nil)
  (zs_tail (zs_cons (s_set (i := 6) C.nd (z_callTy cz_list (by rfl) T.x_list (by decide +kernel) (za_cons (z_var 2) za_nil)))
  (zs_cons (s_set (i := 7) C.nd (z_call C (ok_share T) (by decide) T.D_share.m T.D_share.F.kp T.D_share.b (za_cons (z_var 6) (za_cons (z_var 3) (za_cons (z_var 5) za_nil)))))
  (zs_cons (s_set (i := 8) C.nd (z_call C (ok_law_owners T) (by decide) T.D_law_owners.m T.D_law_owners.F.kp T.D_law_owners.b (za_cons (z_var 2) (za_cons (z_var 1) (za_cons (z_var 7) za_nil)))))
  (zs_cons (s_if (t_w (w_or (t_cmp oz_is (nomark _) (z_var 8) z_non) (w_or (t_cmp (oz_ne C.room.units) (nomark _) (z_var 6) (z_var 2)) (w_or1 (t_cmp (oz_ne C.room.units) (nomark _) (z_var 3) (z_var 1)))))) (zs_one (s_ret z_bl)) zs_nil)
  (zs_cons (s_set (i := 9) C.nd (z_call C (ok_number_of T) (by decide) T.D_number_of.m T.D_number_of.F.kp T.D_number_of.b (za_cons (z_var 6) (za_cons (z_callTy cz_list (by rfl) T.x_list (by decide +kernel) (za_cons (z_var 7) za_nil)) za_nil))))
  (zs_cons (s_if (t_w (w_or (t_not (t_val (z_call C (ok_law_whole T) (by decide) T.D_law_whole.m T.D_law_whole.F.kp T.D_law_whole.b (za_cons (z_var 9) za_nil)))) (w_or (t_cmp (oz_ne C.room.units) (nomark _) (z_var 9) (z_var 5)) (w_or1 (t_cmp (oz_ne C.room.units) (nomark _) (z_var 6) (z_var 2)))))) (zs_one (s_ret z_bl)) zs_nil)
  (zs_cons (s_if (t_cmp (oz_ltX C.room.units) (nomark _) (z_bin oz_add (z_var 5) z_int) (z_var 4)) (zs_cons (s_set (i := 10) C.nd (z_call C (ok_law_owners T) (by decide) T.D_law_owners.m T.D_law_owners.F.kp T.D_law_owners.b (za_cons (z_var 2) (za_cons (z_var 1) (za_cons (z_call C (ok_share T) (by decide) T.D_share.m T.D_share.F.kp T.D_share.b (za_cons (z_var 2) (za_cons (z_var 1) (za_cons (z_bin oz_add (z_var 5) z_int) za_nil)))) za_nil)))))
  (zs_one (s_if (t_w (w_or (t_cmp oz_is (nomark _) (z_var 10) z_non) (w_or1 (t_not (t_cmp (oz_ltX C.room.units) (nomark _) (z_var 8) (z_var 10)))))) (zs_one (s_ret z_bl)) zs_nil))) (zs_one (s_if (t_not (t_val (z_call C (ok_law_refused T) (by decide) T.D_law_refused.m T.D_law_refused.F.kp T.D_law_refused.b (za_cons (z_var 2) (za_cons (z_var 1) (za_cons (z_bin oz_add (z_var 5) z_int) za_nil)))))) (zs_one (s_ret z_bl)) zs_nil)))
  (zs_tail (zs_cons (s_if (t_w (w_or (t_not (t_val (z_call C (ok_law_refused T) (by decide) T.D_law_refused.m T.D_law_refused.F.kp T.D_law_refused.b (za_cons (z_var 2) (za_cons (z_var 1) (za_cons (z_bin oz_sub (z_neg z_int) (z_var 5)) za_nil)))))) (w_or1 (t_not (t_val (z_call C (ok_law_refused T) (by decide) T.D_law_refused.m T.D_law_refused.F.kp T.D_law_refused.b (za_cons (z_var 2) (za_cons (z_bin oz_add (z_sl (z_var 1) zo_none (zo_some (z_neg z_int))) (z_lst (zd_cons (z_bin oz_add (z_ix (z_var 1) (z_neg z_int)) z_int) zd_nil))) (za_cons z_int za_nil))))))))) (zs_one (s_ret z_bl)) zs_nil)
  (zs_one (s_ret (z_cmp (oz_eq C.room.units) (nomark _) (z_call C (ok_share T) (by decide) T.D_share.m T.D_share.F.kp T.D_share.b (za_cons (z_var 2) (za_cons (z_var 1) (za_cons (z_var 5) za_nil)))) (z_var 7)))))))))))))))))))))) read_law
end
theorem all_mk {P : Program} {w : World} {K : Frag} {h : Heap} {mg : Str → Option Value} {fa : Addr} (X : K.In h) (G : h.Ns mainGlobals mg) (hfa : mg "law" = some (.ref fa))
    (hC_NoDeal : ∃ C, PySem.W.nsIn K mainGlobals "NoDeal" = some (some (.ref C)))
    (hC_NoHand : ∃ C, PySem.W.nsIn K mainGlobals "NoHand" = some (some (.ref C)))
    (hC_NoShare : ∃ C, PySem.W.nsIn K mainGlobals "NoShare" = some (some (.ref C)))
    (hC_TrickError : ∃ C, PySem.W.nsIn K mainGlobals "TrickError" = some (some (.ref C)))
    (hE_NoShare : ∃ C, ExAt K mg c_NoShare C)
    (hxm_NoShare_TrickError : ExmAt K c_NoShare c_TrickError)
    (hty_NoShare : ∃ C, ClsAt K c_NoShare C ∧ ExcC K C)
    (hkt_NoShare_NoDeal : KitAt K c_NoShare (.o c_NoDeal))
    (hkt_NoShare_NoHand : KitAt K c_NoShare (.o c_NoHand))
    (hkt_NoShare_NoShare : KitAt K c_NoShare (.o c_NoShare))
    (hkt_NoShare_ValueError : KitAt K c_NoShare (.t "ValueError"))
    (h_law_mixed : ∃ f fd, DefAt K mg "_law_mixed" s_law_mixed ["_law_script", "_law_k"] f fd)
    (h_law_sizes : ∃ f fd, DefAt K mg "_law_sizes" s_law_sizes ["_law_script", "_law_most"] f fd)
    (h_law_pack : ∃ f fd, DefAt K mg "_law_pack" s_law_pack ["_law_script", "_law_size"] f fd)
    (h_ways : ∃ f fd, DefAt K mg "ways" s_ways ["sizes"] f fd)
    (h_law_whole : ∃ f fd, DefAt K mg "_law_whole" s_law_whole ["_law_found"] f fd)
    (h_law_added : ∃ f fd, DefAt K mg "_law_added" s_law_added ["_law_sizes_here"] f fd)
    (h_ways_with : ∃ f fd, DefAt K mg "ways_with" s_ways_with ["sizes", "seat"] f fd)
    (h_share : ∃ f fd, DefAt K mg "share" s_share ["cards", "sizes", "number"] f fd)
    (h_law_owners : ∃ f fd, DefAt K mg "_law_owners" s_law_owners ["_law_cards", "_law_sizes_here", "_law_hands"] f fd)
    (h_many : ∃ f fd, DefAt K mg "many" s_many ["hand"] f fd)
    (h_number_of : ∃ f fd, DefAt K mg "number_of" s_number_of ["cards", "hands"] f fd)
    (h_law_other : ∃ f fd, DefAt K mg "_law_other" s_law_other ["_law_caught"] f fd)
    (h_law_refusal : ∃ f fd, DefAt K mg "_law_refusal" s_law_refusal ["_law_caught"] f fd)
    (h_law_refused : ∃ f fd, DefAt K mg "_law_refused" s_law_refused ["_law_cards", "_law_sizes_here", "_law_number"] f fd)
    (h_law : ∃ f fd, DefAt K mg "law" s_law ["_law_script"] f fd)
    (x_ValueError : PySem.W.nsIn K mainGlobals "ValueError" = some none)
    (x_all : PySem.W.nsIn K mainGlobals "all" = some none)
    (x_bool : PySem.W.nsIn K mainGlobals "bool" = some none)
    (x_int : PySem.W.nsIn K mainGlobals "int" = some none)
    (x_isinstance : PySem.W.nsIn K mainGlobals "isinstance" = some none)
    (x_len : PySem.W.nsIn K mainGlobals "len" = some none)
    (x_list : PySem.W.nsIn K mainGlobals "list" = some none)
    (x_min : PySem.W.nsIn K mainGlobals "min" = some none)
    (x_range : PySem.W.nsIn K mainGlobals "range" = some none)
    (x_sorted : PySem.W.nsIn K mainGlobals "sorted" = some none)
    (x_sum : PySem.W.nsIn K mainGlobals "sum" = some none) :
    ∃ fd : FuncData, (∀ (s : Shared) (v : Value), BindsTo s fd ⟨[v], []⟩ [("_law_script", v)]) ∧ ∀ base : Heap, K.In base → base.Ns mainGlobals mg → FnOk P w K mg base (L2.CX P w) 5 fa fd ["_law_script"] (toSp K sp_law) := by
  obtain ⟨C_NoDeal, e_NoDeal⟩ := hC_NoDeal
  obtain ⟨C_NoHand, e_NoHand⟩ := hC_NoHand
  obtain ⟨C_NoShare, e_NoShare⟩ := hC_NoShare
  obtain ⟨C_TrickError, e_TrickError⟩ := hC_TrickError
  obtain ⟨f_law_mixed, g_law_mixed, h_law_mixed⟩ := h_law_mixed
  obtain ⟨f_law_sizes, g_law_sizes, h_law_sizes⟩ := h_law_sizes
  obtain ⟨f_law_pack, g_law_pack, h_law_pack⟩ := h_law_pack
  obtain ⟨f_ways, g_ways, h_ways⟩ := h_ways
  obtain ⟨f_law_whole, g_law_whole, h_law_whole⟩ := h_law_whole
  obtain ⟨f_law_added, g_law_added, h_law_added⟩ := h_law_added
  obtain ⟨f_ways_with, g_ways_with, h_ways_with⟩ := h_ways_with
  obtain ⟨f_share, g_share, h_share⟩ := h_share
  obtain ⟨f_law_owners, g_law_owners, h_law_owners⟩ := h_law_owners
  obtain ⟨f_many, g_many, h_many⟩ := h_many
  obtain ⟨f_number_of, g_number_of, h_number_of⟩ := h_number_of
  obtain ⟨f_law_other, g_law_other, h_law_other⟩ := h_law_other
  obtain ⟨f_law_refusal, g_law_refusal, h_law_refusal⟩ := h_law_refusal
  obtain ⟨f_law_refused, g_law_refused, h_law_refused⟩ := h_law_refused
  obtain ⟨f_law, g_law, h_law⟩ := h_law
  have e := hfa.symm.trans h_law.m
  cases e
  have T : Txt K mg ⟨f_law_mixed, g_law_mixed, f_law_sizes, g_law_sizes, f_law_pack, g_law_pack, f_ways, g_ways, f_law_whole, g_law_whole, f_law_added, g_law_added, f_ways_with, g_ways_with, f_share, g_share, f_law_owners, g_law_owners, f_many, g_many, f_number_of, g_number_of, f_law_other, g_law_other, f_law_refusal, g_law_refusal, f_law_refused, g_law_refused, fa, g_law, C_NoDeal, C_NoHand, C_NoShare, C_TrickError⟩ := ⟨h_law_mixed, h_law_sizes, h_law_pack, h_ways, h_law_whole, h_law_added, h_ways_with, h_share, h_law_owners, h_many, h_number_of, h_law_other, h_law_refusal, h_law_refused, h_law, e_NoDeal, PySem.W.mg_of X G e_NoDeal, e_NoHand, PySem.W.mg_of X G e_NoHand, e_NoShare, PySem.W.mg_of X G e_NoShare, e_TrickError, PySem.W.mg_of X G e_TrickError, hE_NoShare, hxm_NoShare_TrickError, hty_NoShare, hkt_NoShare_NoDeal, hkt_NoShare_NoHand, hkt_NoShare_NoShare, hkt_NoShare_ValueError, PySem.W.mg_none_of X G x_ValueError, PySem.W.mg_none_of X G x_all, PySem.W.mg_none_of X G x_bool, PySem.W.mg_none_of X G x_int, PySem.W.mg_none_of X G x_isinstance, PySem.W.mg_none_of X G x_len, PySem.W.mg_none_of X G x_list, PySem.W.mg_none_of X G x_min, PySem.W.mg_none_of X G x_range, PySem.W.mg_none_of X G x_sorted, PySem.W.mg_none_of X G x_sum⟩
  exact ⟨_, fun s v => h_law.bt s [v] rfl, fun base _ _ => ok_law T⟩
theorem the_walk {l : PySem.W.OpenLaw} {q : Program} {loose : List Str} {XP : (Str → Option Value) → Heap → Prop} {YP : World → Heap → Prop} {d : DefRec} {K : Params → Frag} (hn : l.most = some 63) (hdf : d.params.defaults = [])
    (hY : ∀ (w : World) (h : Heap), YP w h → (K w.params).In h)
    (F : ∀ (w : World) (mg : Str → Option Value) (fa : Addr) (h : Heap), (K w.params).In h → h.Ns mainGlobals mg → mg d.name = some (.ref fa) →
      ∃ fd : FuncData, (∀ (s : Shared) (u : Value), BindsTo s fd ⟨[u], []⟩ [("_law_script", u)]) ∧ ∀ base : Heap, (K w.params).In base → base.Ns mainGlobals mg → FnOk l.prog w (K w.params) mg base (L2.CX l.prog w) 5 fa fd ["_law_script"] (toSp (K w.params) sp_law)) :
    PySem.W.WalkO q loose XP YP l.row.toRowW d [] (fun f vs => PySem.call f vs) :=
  L2.walk_of (n := 63) (k := 5) (x := "_law_script") (CX := fun w => L2.CX l.prog w) (sp := fun w => toSp (K w.params) sp_law) hn (by decide) hdf ⟨rfl, by decide, by decide⟩ hY F (fun _ H a ns hl hO hS => law_sp (fun m hm Q E q => by first | exact ⟨m, ns, rfl, hm, hl, q⟩ | exact ⟨m, ns, rfl, hl, q⟩) hO hS) fun _ _ _ _ _ z => law_cx z
end Z
open PySem PySem.W PyProof.Rows
set_option maxRecDepth 100000 in
set_option maxHeartbeats 0 in
theorem PySem.Challenge.cw_trickproof_k06_one_share_holds : PySem.Challenge.rw_trickproof_k06_one_share.Holds := by
  w_on; o_law; k_head; (case hw => w_witness2)
  k_fill
  refine Z.the_walk (l := PySem.Challenge.rw_trickproof_k06_one_share) rfl rfl (fun w h Y => PySem.W.kIn_of Y) ?F
  case F =>
    intro w mg fa h KX G hmg
    refine' Z.all_mk KX G hmg ?hC_NoDeal ?hC_NoHand ?hC_NoShare ?hC_TrickError ?hE_NoShare ?hxm_NoShare_TrickError ?hty_NoShare ?hkt_NoShare_NoDeal ?hkt_NoShare_NoHand ?hkt_NoShare_NoShare ?hkt_NoShare_ValueError ?h_law_mixed ?h_law_sizes ?h_law_pack ?h_ways ?h_law_whole ?h_law_added ?h_ways_with ?h_share ?h_law_owners ?h_many ?h_number_of ?h_law_other ?h_law_refusal ?h_law_refused ?h_law ?x_ValueError ?x_all ?x_bool ?x_int ?x_isinstance ?x_len ?x_list ?x_min ?x_range ?x_sorted ?x_sum
    (case hC_NoDeal => (refine' Z.ns_ex ?b; (case b => k_is)))
    (case hC_NoHand => (refine' Z.ns_ex ?b; (case b => k_is)))
    (case hC_NoShare => (refine' Z.ns_ex ?b; (case b => k_is)))
    (case hC_TrickError => (refine' Z.ns_ex ?b; (case b => k_is)))
    (case hE_NoShare => (refine' Z.ex_at KX G ?xa ?xq ?xk ?xb ?xt; (case xa => k_is); (case xq => k_exc); (case xk => k_is); (case xb => k_is); (case xt => k_is)))
    (case hxm_NoShare_TrickError => (refine' Z.exm_at ?a ?a2 ?e1 ?e2 ?e3 ?e ?h; (case a => k_is); (case a2 => k_is); (case e1 => k_is); (case e2 => k_is); (case e3 => k_is); (case e => k_is); (case h => rfl)))
    (case hty_NoShare => (refine' Z.ty_exc ?a ⟨?hg, ?hk, ?hs, ?hd, ?ha, ?hn, ?ht, ?hm⟩; (case a => k_is); (case hg => k_is); (case hk => k_is); (case hs => k_is); (case hd => k_is); (case ha => k_is); (case hn => k_is); (case ht => k_is); (case hm => k_is)))
    (case hkt_NoShare_NoDeal => (refine' Z.kit_o ?a ?a2 ?e2 ?e3 ?e ?h ?n; (case a => k_is); (case a2 => k_is); (case e2 => k_is); (case e3 => k_is); (case e => k_is); (case h => rfl); (case n => first | exact .inr rfl | exact .inl (by decide))))
    (case hkt_NoShare_NoHand => (refine' Z.kit_o ?a ?a2 ?e2 ?e3 ?e ?h ?n; (case a => k_is); (case a2 => k_is); (case e2 => k_is); (case e3 => k_is); (case e => k_is); (case h => rfl); (case n => first | exact .inr rfl | exact .inl (by decide))))
    (case hkt_NoShare_NoShare => (refine' Z.kit_o ?a ?a2 ?e2 ?e3 ?e ?h ?n; (case a => k_is); (case a2 => k_is); (case e2 => k_is); (case e3 => k_is); (case e => k_is); (case h => rfl); (case n => first | exact .inr rfl | exact .inl (by decide))))
    (case hkt_NoShare_ValueError => (refine' Z.kit_t ?a ?e ?m ?h; (case a => k_is); (case e => k_is); (case m => decide +kernel); (case h => rfl)))
    (case h_law_mixed => (refine' Z.def_at KX G (fun _ _ _ _ _ _ us hl => match us, hl with | [_, _], _ => rfl) ?a ?l ?c ?k; (case a => k_is); (case l => k_is); (case c => k_is); (case k => k_is)))
    (case h_law_sizes => (refine' Z.def_at KX G (fun _ _ _ _ _ _ us hl => match us, hl with | [_, _], _ => rfl) ?a ?l ?c ?k; (case a => k_is); (case l => k_is); (case c => k_is); (case k => k_is)))
    (case h_law_pack => (refine' Z.def_at KX G (fun _ _ _ _ _ _ us hl => match us, hl with | [_, _], _ => rfl) ?a ?l ?c ?k; (case a => k_is); (case l => k_is); (case c => k_is); (case k => k_is)))
    (case h_ways => (refine' Z.def_at KX G (fun _ _ _ _ _ _ us hl => match us, hl with | [_], _ => rfl) ?a ?l ?c ?k; (case a => k_is); (case l => k_is); (case c => k_is); (case k => k_is)))
    (case h_law_whole => (refine' Z.def_at KX G (fun _ _ _ _ _ _ us hl => match us, hl with | [_], _ => rfl) ?a ?l ?c ?k; (case a => k_is); (case l => k_is); (case c => k_is); (case k => k_is)))
    (case h_law_added => (refine' Z.def_at KX G (fun _ _ _ _ _ _ us hl => match us, hl with | [_], _ => rfl) ?a ?l ?c ?k; (case a => k_is); (case l => k_is); (case c => k_is); (case k => k_is)))
    (case h_ways_with => (refine' Z.def_at KX G (fun _ _ _ _ _ _ us hl => match us, hl with | [_, _], _ => rfl) ?a ?l ?c ?k; (case a => k_is); (case l => k_is); (case c => k_is); (case k => k_is)))
    (case h_share => (refine' Z.def_at KX G (fun _ _ _ _ _ _ us hl => match us, hl with | [_, _, _], _ => rfl) ?a ?l ?c ?k; (case a => k_is); (case l => k_is); (case c => k_is); (case k => k_is)))
    (case h_law_owners => (refine' Z.def_at KX G (fun _ _ _ _ _ _ us hl => match us, hl with | [_, _, _], _ => rfl) ?a ?l ?c ?k; (case a => k_is); (case l => k_is); (case c => k_is); (case k => k_is)))
    (case h_many => (refine' Z.def_at KX G (fun _ _ _ _ _ _ us hl => match us, hl with | [_], _ => rfl) ?a ?l ?c ?k; (case a => k_is); (case l => k_is); (case c => k_is); (case k => k_is)))
    (case h_number_of => (refine' Z.def_at KX G (fun _ _ _ _ _ _ us hl => match us, hl with | [_, _], _ => rfl) ?a ?l ?c ?k; (case a => k_is); (case l => k_is); (case c => k_is); (case k => k_is)))
    (case h_law_other => (refine' Z.def_at KX G (fun _ _ _ _ _ _ us hl => match us, hl with | [_], _ => rfl) ?a ?l ?c ?k; (case a => k_is); (case l => k_is); (case c => k_is); (case k => k_is)))
    (case h_law_refusal => (refine' Z.def_at KX G (fun _ _ _ _ _ _ us hl => match us, hl with | [_], _ => rfl) ?a ?l ?c ?k; (case a => k_is); (case l => k_is); (case c => k_is); (case k => k_is)))
    (case h_law_refused => (refine' Z.def_at KX G (fun _ _ _ _ _ _ us hl => match us, hl with | [_, _, _], _ => rfl) ?a ?l ?c ?k; (case a => k_is); (case l => k_is); (case c => k_is); (case k => k_is)))
    (case h_law => (refine' Z.def_at KX G (fun _ _ _ _ _ _ us hl => match us, hl with | [_], _ => rfl) ?a ?l ?c ?k; (case a => k_is); (case l => k_is); (case c => k_is); (case k => k_is)))
    (case x_ValueError => k_is)
    (case x_all => k_is)
    (case x_bool => k_is)
    (case x_int => k_is)
    (case x_isinstance => k_is)
    (case x_len => k_is)
    (case x_list => k_is)
    (case x_min => k_is)
    (case x_range => k_is)
    (case x_sorted => k_is)
    (case x_sum => k_is)
