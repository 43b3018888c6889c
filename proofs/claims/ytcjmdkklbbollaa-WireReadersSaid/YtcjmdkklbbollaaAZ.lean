import Derived.Test.YtcjmdkklbbollaaAX
set_option linter.unusedSimpArgs false
set_option linter.unusedVariables false
namespace Go.Proofs.Ytcjmdkklbbollaa
open Go.RowKit

/-- What the reader of the reference reads of all its bytes, from place a on. -/
def readAll : Nat → ByteArray → Nat → List M → List Int → List M × List Int × Int
  | 0, _, _, l, es => (l, es, -1)
  | n + 1, fed, a, l, es =>
    if (decS (fed.extract a (min (fed.size : Int) ((a : Int) + 4200 + 4)).toNat)).2.2.2 = 12 then (l, es, (a : Int) + (decS (fed.extract a (min (fed.size : Int) ((a : Int) + 4200 + 4)).toNat)).2.2.1)
    else if (decS (fed.extract a (min (fed.size : Int) ((a : Int) + 4200 + 4)).toNat)).2.2.2 = 0 then
      readAll n fed (a + (decS (fed.extract a (min (fed.size : Int) ((a : Int) + 4200 + 4)).toNat)).2.1.toNat) (l ++ [(decS (fed.extract a (min (fed.size : Int) ((a : Int) + 4200 + 4)).toNat)).1]) (es ++ [(a : Int) + (decS (fed.extract a (min (fed.size : Int) ((a : Int) + 4200 + 4)).toNat)).2.1])
    else (l, es, -1)
abbrev pieceA (fed : ByteArray) (a : Nat) : ByteArray := fed.extract a (min (fed.size : Int) ((a : Int) + 4200 + 4)).toNat
theorem readAll_bad {n a : Nat} {fed : ByteArray} {l : List M} {es : List Int} (hn : fed.size - a < n) (h : (decS (pieceA fed a)).2.2.2 = 12) : readAll n fed a l es = (l, es, (a : Int) + (decS (pieceA fed a)).2.2.1) := by
  obtain ⟨m, rfl⟩ : ∃ m, n = m + 1 := ⟨n - 1, by omega⟩
  rw [readAll, if_pos h]
theorem readAll_end {n a : Nat} {fed : ByteArray} {l : List M} {es : List Int} (hn : fed.size - a < n) (h : ¬ (decS (pieceA fed a)).2.2.2 = 12) (h0 : ¬ (decS (pieceA fed a)).2.2.2 = 0) : readAll n fed a l es = (l, es, -1) := by
  obtain ⟨m, rfl⟩ : ∃ m, n = m + 1 := ⟨n - 1, by omega⟩
  rw [readAll, if_neg h, if_neg h0]
theorem readAll_next {n a : Nat} {fed : ByteArray} {l : List M} {es : List Int} (hn : fed.size - a < n) (h : ¬ (decS (pieceA fed a)).2.2.2 = 12) (h0 : (decS (pieceA fed a)).2.2.2 = 0) :
    readAll n fed a l es = readAll (n - 1) fed (a + (decS (pieceA fed a)).2.1.toNat) (l ++ [(decS (pieceA fed a)).1]) (es ++ [(a : Int) + (decS (pieceA fed a)).2.1]) := by
  obtain ⟨m, rfl⟩ : ∃ m, n = m + 1 := ⟨n - 1, by omega⟩
  rw [readAll, if_neg h, if_pos h0]; rfl
structure Whl where
  hello : Hs
  greets : Bool
  list : List M
  ends : List Int
  start : Int
  wrong : Int
abbrev helloA (fed : ByteArray) : ByteArray := fed.extract 0 (min (fed.size : Int) 68).toNat
/-- What Whole answers. -/
def wholeR (g : Bool) (fed : ByteArray) : Whl :=
  if g = true then
    if (readR (helloA fed)).2.2.2 = 12 then ⟨Hs.zero, false, [], [], 0, (readR (helloA fed)).2.2.1⟩
    else if (readR (helloA fed)).2.2.2 = 0 then
      ⟨(readR (helloA fed)).1, true, (readAll (fed.size + 1) fed 68 [] []).1, (readAll (fed.size + 1) fed 68 [] []).2.1, 68, (readAll (fed.size + 1) fed 68 [] []).2.2⟩
    else ⟨Hs.zero, false, [], [], 0, -1⟩
  else ⟨Hs.zero, false, (readAll (fed.size + 1) fed 0 [] []).1, (readAll (fed.size + 1) fed 0 [] []).2.1, 0, (readAll (fed.size + 1) fed 0 [] []).2.2⟩
theorem readAll_len : ∀ (n : Nat) (fed : ByteArray) (a : Nat) (l : List M) (es : List Int), es.length = l.length → (readAll n fed a l es).2.1.length = (readAll n fed a l es).1.length
  | 0, _, _, _, _, h => h
  | n + 1, fed, a, l, es, h => by
    unfold readAll
    split
    · exact h
    split
    · exact readAll_len n _ _ _ _ (by simp [h])
    · exact h
def Whl.cells (x : Whl) (p1 : Option Addr) (c1 : Nat) (p2 : Option Addr) (c2 : Nat) : Array Value :=
  #[.bool x.hello.e, .bool x.hello.f, .bool x.hello.n, .string x.hello.name, .string x.hello.peer, .bool x.greets, .slice p1 x.list.length c1, .slice p2 x.ends.length c2, .int .i64 x.start, .int .i64 x.wrong]
def whL (x : Whl) (p1 : Option Addr) (c1 : Nat) (p2 : Option Addr) (c2 : Nat) : List Item := [Rw 33 8 p1 x.list.length c1 (msgsV x.list), Rw 3 1 p2 x.ends.length c2 (zsV x.ends)]
end Go.Proofs.Ytcjmdkklbbollaa
