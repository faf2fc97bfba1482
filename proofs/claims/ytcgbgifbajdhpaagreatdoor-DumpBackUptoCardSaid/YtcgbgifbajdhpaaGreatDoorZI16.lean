/- Of the law rZIQDumpBack. -/
import Derived.Test.YtcgbgifbajdhpaaGreatDoorZI7
import Derived.Lib.Strings
import Derived.Lib.Slices
import Derived.Lib.Small
import Derived.Lib.Walk
import Derived.Lib.BitFns
set_option linter.unusedVariables false
set_option linter.unusedSimpArgs false
set_option maxHeartbeats 4000000
set_option maxRecDepth 100000
namespace Go
abbrev iQ:=@Go.Lib.bitLen_le
end Go
namespace Go.Proofs.Y.PA
open Go.RowKit Go.Proofs.Y.G Go.Proofs.YW.o7 Go.Proofs.YW.pJ Go.Proofs.YW.pO
theorem Uh:∀ n:Fin 256,(Lib.len8tab.data.getD n.val 0).toNat=Lib.bitLen n.val:=by decide +kernel
theorem Wu (s:ByteArray)(n:Nat)(h:n<s.size):s[n]'h=s.data.getD n 0:=by
 have h':n<s.data.size:=h;rw[kU,iy h'];rfl
theorem Yj (n:Nat)(h:n<Lib.len8tab.size):((Lib.len8tab[n]'h).toNat:Int)=(Lib.bitLen n:Int):=by
 have hs:Lib.len8tab.size=256:=by decide +kernel
 have:=Uh ⟨n,by omega⟩;rw[Wu,← this]
theorem XO.c (x:Int)(w:World)(h0:0≤x)(h1:x≤18446744073709551615) :
 Calls Tryz.prog 146 #[.int .u64 x] w fun e w'=>e = .returned (.int .i64 (Lib.bitLen x.toNat))∧w'=w:=by
 have hsz:Lib.len8tab.size=256:=by decide +kernel
 go_enter Tryz.func146,Tryz.ntmps146
 go_wp2
 all_goals (go_ret;refine⟨gG Ending.returned (gG (Value.int IntKind.i64) ?_),rfl⟩)
 all_goals simp only[Yj]
 all_goals clear hsz
 all_goals first
  | (have e:(x / 4294967296 / 65536 / 256).toNat=x.toNat / 72057594037927936:=by omega
     rw[e];have l:=iQ (x.toNat / 72057594037927936) 8 (by decide) (by omega);have s:=Lib.bitLen_shift56 x.toNat (by omega) (by omega);have q:((Lib.bitLen (x.toNat / 72057594037927936):Nat):Int)≤8:=by omega
     rw[yM (x:=((Lib.bitLen (x.toNat / 72057594037927936):Nat):Int)) (by omega) (by omega),yM (by omega) (by omega)];omega)
  | (have e:(x / 4294967296 / 65536).toNat=x.toNat / 281474976710656:=by omega
     rw[e];have l:=iQ (x.toNat / 281474976710656) 8 (by decide) (by omega);have s:=Lib.bitLen_shift48 x.toNat (by omega) (by omega);have q:((Lib.bitLen (x.toNat / 281474976710656):Nat):Int)≤8:=by omega
     rw[yM (x:=((Lib.bitLen (x.toNat / 281474976710656):Nat):Int)) (by omega) (by omega),yM (by omega) (by omega)];omega)
  | (have e:(x / 4294967296 / 256).toNat=x.toNat / 1099511627776:=by omega
     rw[e];have l:=iQ (x.toNat / 1099511627776) 8 (by decide) (by omega);have s:=Lib.bitLen_shift40 x.toNat (by omega) (by omega);have q:((Lib.bitLen (x.toNat / 1099511627776):Nat):Int)≤8:=by omega
     rw[yM (x:=((Lib.bitLen (x.toNat / 1099511627776):Nat):Int)) (by omega) (by omega),yM (by omega) (by omega)];omega)
  | (have e:(x / 4294967296).toNat=x.toNat / 4294967296:=by omega
     rw[e];have l:=iQ (x.toNat / 4294967296) 8 (by decide) (by omega);have s:=Lib.bitLen_shift32 x.toNat (by omega) (by omega);have q:((Lib.bitLen (x.toNat / 4294967296):Nat):Int)≤8:=by omega
     rw[yM (x:=((Lib.bitLen (x.toNat / 4294967296):Nat):Int)) (by omega) (by omega),yM (by omega) (by omega)];omega)
  | (have e:(x / 65536 / 256).toNat=x.toNat / 16777216:=by omega
     rw[e];have l:=iQ (x.toNat / 16777216) 8 (by decide) (by omega);have s:=Lib.bitLen_shift24 x.toNat (by omega) (by omega);have q:((Lib.bitLen (x.toNat / 16777216):Nat):Int)≤8:=by omega
     rw[yM (x:=((Lib.bitLen (x.toNat / 16777216):Nat):Int)) (by omega) (by omega),yM (by omega) (by omega)];omega)
  | (have e:(x / 65536).toNat=x.toNat / 65536:=by omega
     rw[e];have l:=iQ (x.toNat / 65536) 8 (by decide) (by omega);have s:=Lib.bitLen_shift16 x.toNat (by omega) (by omega);have q:((Lib.bitLen (x.toNat / 65536):Nat):Int)≤8:=by omega
     rw[yM (x:=((Lib.bitLen (x.toNat / 65536):Nat):Int)) (by omega) (by omega),yM (by omega) (by omega)];omega)
  | (have e:(x / 256).toNat=x.toNat / 256:=by omega
     rw[e];have l:=iQ (x.toNat / 256) 8 (by decide) (by omega);have s:=Lib.bitLen_shift8 x.toNat (by omega) (by omega);have q:((Lib.bitLen (x.toNat / 256):Nat):Int)≤8:=by omega
     rw[yM (x:=((Lib.bitLen (x.toNat / 256):Nat):Int)) (by omega) (by omega),yM (by omega) (by omega)];omega)
  | (have e:(x).toNat=x.toNat:=by omega
     rw[e];have l:=iQ (x.toNat) 8 (by decide) (by omega);have q:((Lib.bitLen (x.toNat):Nat):Int)≤8:=by omega
     rw[yM (x:=((Lib.bitLen (x.toNat):Nat):Int)) (by omega) (by omega),yM (by omega) (by omega)]
     (try omega))
theorem lz.c (x:Nat)(w:World)(h1:x<18446744073709551616) :
 Calls Tryz.prog 125 #[.int .u64 x] w fun e w'=>e = .returned (.int .i64 ((64-Lib.bitLen x:Nat):Int))∧w'=w:=by
 have l:Lib.bitLen x≤64:=iQ x 64 (by omega) (by omega);have e:((64-Lib.bitLen x:Nat):Int)=64-(Lib.bitLen x:Int):=by omega
 rw[e]
 go_enter Tryz.func125,Tryz.ntmps125
 go_wp2_with (go_at_call 146;refine (XO.c (x:Int) _ (by omega) (by omega)).mono ?_;rintro e w' ⟨rfl,rfl⟩;rw[bf])
 go_ret;exact⟨rfl,rfl⟩
end Go.Proofs.Y.PA
