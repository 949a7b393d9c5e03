/- Plain words: the cipher's functions, the number of bits. -/
import Derived.Test.YtjdffpglgkefmaaGreatKey
set_option linter.unusedVariables false
namespace Go.Sx
open Go

def rotl (x : BitVec 64) (s : Nat) : BitVec 64 := x <<< s ||| x >>> (64 - s)
/-- one round of the cipher, on the two words; and back -/
def rnd (p : W2) (k : BitVec 64) : W2 := ((rotl p.1 56 + p.2) ^^^ k, rotl p.2 3 ^^^ ((rotl p.1 56 + p.2) ^^^ k))
def rndB (p : W2) (k : BitVec 64) : W2 := (rotl ((p.1 ^^^ k) - rotl (p.1 ^^^ p.2) 61) 8, rotl (p.1 ^^^ p.2) 61)
/-- what makes the round keys -/
def ks (k : W2) : Nat → W2
  | 0 => k
  | i + 1 => rnd (ks k i) (wd (i : Int))
/-- a block, encrypted under a key -/
def encr (k b : W2) : W2 := (List.range 32).foldl (fun p i => rnd p (ks k i).2) b
/-- the block of a tag, a counter and a number -/
def blk (tag : Int) (c n : BitVec 64) : W2 := (wd tag <<< 56 ||| c, n)
/-- what is derived from a key -/
def drv (k : W2) (tag : Int) (n : BitVec 64) : W2 := encr k (blk tag 0#64 n)
/-- a block, decrypted: the rounds undone, down to number j -/
def decTo (k b : W2) (j : Nat) : W2 := (List.range (32 - j)).foldl (fun p i => rndB p (ks k (31 - i)).2) b
def decr (k b : W2) : W2 := decTo k b 0
/-- the number of bits of a number -/
def lg (a : Int) : Int := if a.toNat = 0 then 0 else (Nat.log2 a.toNat : Int) + 1
end Go.Sx
