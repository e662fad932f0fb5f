/- Lemmas and walks: what each function does, by its own code. No condition beyond those of each statement. -/
import Derived.Test.YtbobhnldhpjdlaaGreatDoorP1
import Derived.Test.YtbobhnldhpjdlaaGreatDoorP11
import Derived.Test.YtbobhnldhpjdlaaGreatDoorP15
import Derived.Test.YtbobhnldhpjdlaaGreatDoorP18
import Derived.Test.YtbobhnldhpjdlaaGreatDoorProg
set_option linter.all false
set_option linter.unusedVariables false
namespace Go.Proofs.YtbobhnldhpjdlaaGreatDoor
open Go Go.RowKit Go.Cs Go.Cz
set_option maxRecDepth 100000
instance:Ik Tryz.prog 87 .u16:=⟨by kernel_rfl⟩
instance:Ni 0 0:=⟨rfl⟩
instance:Ni 1 1:=⟨rfl⟩
instance:Ni 2 2:=⟨rfl⟩
instance:Ni 3 3:=⟨rfl⟩
instance:Ni 4 4:=⟨rfl⟩
instance:Ni 5 5:=⟨rfl⟩
instance:Ni 6 6:=⟨rfl⟩
instance:Ni 7 7:=⟨rfl⟩
instance:Ni 8 8:=⟨rfl⟩
instance:Lu 9 9:=⟨rfl⟩
instance:Ni 9 9:=⟨rfl⟩
instance:Ni 10 10:=⟨rfl⟩
instance:Lu 11 11:=⟨rfl⟩
instance:Ni 11 11:=⟨rfl⟩
instance:Ni 12 12:=⟨rfl⟩
instance:Lu 13 13:=⟨rfl⟩
instance:Ni 13 13:=⟨rfl⟩
instance:Lu 14 14:=⟨rfl⟩
instance:Ni 14 14:=⟨rfl⟩
instance:Ni 15 15:=⟨rfl⟩
instance:Ni 16 16:=⟨rfl⟩
instance:Ni 17 17:=⟨rfl⟩
instance:Lu 18 18:=⟨rfl⟩
instance:Ni 18 18:=⟨rfl⟩
instance:Lu 19 19:=⟨rfl⟩
instance:Ni 19 19:=⟨rfl⟩
instance:Ni 20 20:=⟨rfl⟩
instance:Lu 22 22:=⟨rfl⟩
instance:Ni 22 22:=⟨rfl⟩
instance:Lu 24 24:=⟨rfl⟩
instance:Ni 24 24:=⟨rfl⟩
instance:Lu 25 25:=⟨rfl⟩
instance:Ni 25 25:=⟨rfl⟩
instance:Ni 27 27:=⟨rfl⟩
instance:Lu 30 30:=⟨rfl⟩
instance:Ni 30 30:=⟨rfl⟩
instance:Ni 31 31:=⟨rfl⟩
instance:Ni 32 32:=⟨rfl⟩
instance:Lu 33 33:=⟨rfl⟩
instance:Ni 33 33:=⟨rfl⟩
instance:Lu 40 40:=⟨rfl⟩
instance:Ni 40 40:=⟨rfl⟩
instance:Lu 44 44:=⟨rfl⟩
instance:Ni 44 44:=⟨rfl⟩
instance:Lu 45 45:=⟨rfl⟩
instance:Ni 45 45:=⟨rfl⟩
instance:Lu 48 48:=⟨rfl⟩
instance:Ni 48 48:=⟨rfl⟩
instance:Lu 50 50:=⟨rfl⟩
instance:Ni 50 50:=⟨rfl⟩
instance:Lu 54 54:=⟨rfl⟩
instance:Ni 54 54:=⟨rfl⟩
instance:Lu 56 56:=⟨rfl⟩
instance:Ni 56 56:=⟨rfl⟩
instance:Ni 64 64:=⟨rfl⟩
instance:Lu 92 92:=⟨rfl⟩
instance:Ni 92 92:=⟨rfl⟩
instance:Ni 97 97:=⟨rfl⟩
instance:Ni 99 99:=⟨rfl⟩
instance:Lu 100 100:=⟨rfl⟩
instance:Ni 100 100:=⟨rfl⟩
instance:Ni 101 101:=⟨rfl⟩
instance:Ni 105 105:=⟨rfl⟩
instance:Ni 109 109:=⟨rfl⟩
instance:Ni 110 110:=⟨rfl⟩
instance:Ni 111 111:=⟨rfl⟩
instance:Ni 112 112:=⟨rfl⟩
instance:Ni 114 114:=⟨rfl⟩
instance:Ni 115 115:=⟨rfl⟩
instance:Ni 116 116:=⟨rfl⟩
instance:Ni 121 121:=⟨rfl⟩
instance:Lu 127 127:=⟨rfl⟩
instance:Ni 127 127:=⟨rfl⟩
instance:Lu 128 128:=⟨rfl⟩
instance:Ni 128 128:=⟨rfl⟩
instance:Lu 200 200:=⟨rfl⟩
instance:Ni 200 200:=⟨rfl⟩
instance:Lu 254 254:=⟨rfl⟩
instance:Ni 254 254:=⟨rfl⟩
instance:Ni 255 255:=⟨rfl⟩
instance:Ni 256 256:=⟨rfl⟩
instance:Ni 283 283:=⟨rfl⟩
instance:Ni 4096 4096:=⟨rfl⟩
instance:Ni 8160 8160:=⟨rfl⟩
instance:Ni 10922 10922:=⟨rfl⟩
instance:Ni 65536 65536:=⟨rfl⟩
instance:Ni 113926993 113926993:=⟨rfl⟩
instance:Ni 264347078 264347078:=⟨rfl⟩
instance:Ni 275423344 275423344:=⟨rfl⟩
instance:Ni 310598401 310598401:=⟨rfl⟩
instance:Ni 338241895 338241895:=⟨rfl⟩
instance:Ni 430227734 430227734:=⟨rfl⟩
instance:Ni 506948616 506948616:=⟨rfl⟩
instance:Ni 528734635 528734635:=⟨rfl⟩
instance:Ni 604807628 604807628:=⟨rfl⟩
instance:Ni 607225278 607225278:=⟨rfl⟩
instance:Ni 659060556 659060556:=⟨rfl⟩
instance:Ni 666307205 666307205:=⟨rfl⟩
instance:Ni 770255983 770255983:=⟨rfl⟩
instance:Ni 773529912 773529912:=⟨rfl⟩
instance:Ni 883997877 883997877:=⟨rfl⟩
instance:Ni 958139571 958139571:=⟨rfl⟩
instance:Ni 961987163 961987163:=⟨rfl⟩
instance:Ni 1013904242 1013904242:=⟨rfl⟩
instance:Ni 1116352408 1116352408:=⟨rfl⟩
instance:Ni 1249150122 1249150122:=⟨rfl⟩
instance:Ni 1294757372 1294757372:=⟨rfl⟩
instance:Ni 1322822218 1322822218:=⟨rfl⟩
instance:Ni 1359893119 1359893119:=⟨rfl⟩
instance:Ni 1396182291 1396182291:=⟨rfl⟩
instance:Ni 1426881987 1426881987:=⟨rfl⟩
instance:Ni 1508970993 1508970993:=⟨rfl⟩
instance:Ni 1537002063 1537002063:=⟨rfl⟩
instance:Ni 1541459225 1541459225:=⟨rfl⟩
instance:Ni 1555081692 1555081692:=⟨rfl⟩
instance:Ni 1695183700 1695183700:=⟨rfl⟩
instance:Ni 1747873779 1747873779:=⟨rfl⟩
instance:Ni 1779033703 1779033703:=⟨rfl⟩
instance:Ni 1899447441 1899447441:=⟨rfl⟩
instance:Ni 1925078388 1925078388:=⟨rfl⟩
instance:Ni 1955562222 1955562222:=⟨rfl⟩
instance:Ni 1986661051 1986661051:=⟨rfl⟩
instance:Ni 1996064986 1996064986:=⟨rfl⟩
instance:Ni 2024104815 2024104815:=⟨rfl⟩
instance:Ni 2162078206 2162078206:=⟨rfl⟩
instance:Ni 2177026350 2177026350:=⟨rfl⟩
instance:Ni 2227730452 2227730452:=⟨rfl⟩
instance:Ni 2361852424 2361852424:=⟨rfl⟩
instance:Ni 2428436474 2428436474:=⟨rfl⟩
instance:Ni 2453635748 2453635748:=⟨rfl⟩
instance:Ni 2456956037 2456956037:=⟨rfl⟩
instance:Ni 2554220882 2554220882:=⟨rfl⟩
instance:Ni 2600822924 2600822924:=⟨rfl⟩
instance:Ni 2614888103 2614888103:=⟨rfl⟩
instance:Ni 2730485921 2730485921:=⟨rfl⟩
instance:Ni 2756734187 2756734187:=⟨rfl⟩
instance:Ni 2773480762 2773480762:=⟨rfl⟩
instance:Ni 2820302411 2820302411:=⟨rfl⟩
instance:Ni 2821834349 2821834349:=⟨rfl⟩
instance:Ni 2870763221 2870763221:=⟨rfl⟩
instance:Ni 2952996808 2952996808:=⟨rfl⟩
instance:Ni 3049323471 3049323471:=⟨rfl⟩
instance:Ni 3144134277 3144134277:=⟨rfl⟩
instance:Ni 3204031479 3204031479:=⟨rfl⟩
instance:Ni 3210313671 3210313671:=⟨rfl⟩
instance:Ni 3248222580 3248222580:=⟨rfl⟩
instance:Ni 3259730800 3259730800:=⟨rfl⟩
instance:Ni 3329325298 3329325298:=⟨rfl⟩
instance:Ni 3336571891 3336571891:=⟨rfl⟩
instance:Ni 3345764771 3345764771:=⟨rfl⟩
instance:Ni 3516065817 3516065817:=⟨rfl⟩
instance:Ni 3584528711 3584528711:=⟨rfl⟩
instance:Ni 3600352804 3600352804:=⟨rfl⟩
instance:Ni 3624381080 3624381080:=⟨rfl⟩
instance:Ni 3835390401 3835390401:=⟨rfl⟩
instance:Ni 3921009573 3921009573:=⟨rfl⟩
instance:Ni 4022224774 4022224774:=⟨rfl⟩
instance:Ni 4094571909 4094571909:=⟨rfl⟩
instance:Ni 4294967296 4294967296:=⟨rfl⟩
instance:Ni 9223372036854775807 9223372036854775807:=⟨rfl⟩
instance:Ni 18446744073709551615 18446744073709551615:=⟨rfl⟩
instance:Sz Tryz.prog 9 1 false:=⟨by kernel_rfl,by kernel_rfl⟩
instance:Sz Tryz.prog 23 5 true:=⟨by kernel_rfl,by kernel_rfl⟩
instance:Sz Tryz.prog 28 39 true:=⟨by kernel_rfl,by kernel_rfl⟩
instance:Sz Tryz.prog 72 1 false:=⟨by kernel_rfl,by kernel_rfl⟩
instance:Sz Tryz.prog 74 5 true:=⟨by kernel_rfl,by kernel_rfl⟩
instance:Sz Tryz.prog 76 1 false:=⟨by kernel_rfl,by kernel_rfl⟩
instance:Sz Tryz.prog 78 1 true:=⟨by kernel_rfl,by kernel_rfl⟩
instance:Sz Tryz.prog 82 1 false:=⟨by kernel_rfl,by kernel_rfl⟩
instance:Sz Tryz.prog 85 87 true:=⟨by kernel_rfl,by kernel_rfl⟩
instance:Sz Tryz.prog 87 1 false:=⟨by kernel_rfl,by kernel_rfl⟩
instance:Sz Tryz.prog 209 2 true:=⟨by kernel_rfl,by kernel_rfl⟩
instance:Sz Tryz.prog 358 1 false:=⟨by kernel_rfl,by kernel_rfl⟩
instance:Sz Tryz.prog 416 2 true:=⟨by kernel_rfl,by kernel_rfl⟩
instance:Sz Tryz.prog 432 3 true:=⟨by kernel_rfl,by kernel_rfl⟩
instance:Sz Tryz.prog 435 1 false:=⟨by kernel_rfl,by kernel_rfl⟩
instance:Sz Tryz.prog 542 176 true:=⟨by kernel_rfl,by kernel_rfl⟩
instance:Sz Tryz.prog 544 256 true:=⟨by kernel_rfl,by kernel_rfl⟩
instance:Ix Tryz.prog 72 203 2 none:=⟨by kernel_rfl,by kernel_rfl⟩
instance:Ix Tryz.prog 75 89 5 none:=⟨by kernel_rfl,by kernel_rfl⟩
instance:Ix Tryz.prog 76 358 1 none:=⟨by kernel_rfl,by kernel_rfl⟩
instance:Ix Tryz.prog 82 138 35 none:=⟨by kernel_rfl,by kernel_rfl⟩
instance:Ix Tryz.prog 99 105 2 none:=⟨by kernel_rfl,by kernel_rfl⟩
instance:Ix Tryz.prog 203 5 1 (some 2):=⟨by kernel_rfl,by kernel_rfl⟩
instance:Ix Tryz.prog 358 209 2 none:=⟨by kernel_rfl,by kernel_rfl⟩
instance:Ix Tryz.prog 497 174 1 none:=⟨by kernel_rfl,by kernel_rfl⟩
instance:Ix Tryz.prog 542 527 4 (some 44):=⟨by kernel_rfl,by kernel_rfl⟩
instance:Ix Tryz.prog 544 5 1 (some 256):=⟨by kernel_rfl,by kernel_rfl⟩
instance:Ix Tryz.prog 546 527 4 (some 4):=⟨by kernel_rfl,by kernel_rfl⟩
instance:Zk Tryz.prog 44 Sv cS ((none,0,0)) 1 24:=⟨.slice none 0 0,by kernel_rfl,by kernel_rfl⟩
instance:Zk Tryz.prog 55 Sv cS ((none,0,0)) 1 24:=⟨.slice none 0 0,by kernel_rfl,by kernel_rfl⟩
instance:Zk Tryz.prog 105 SPrb bW (SPrb.zero) 2 16:=⟨.agg (bW SPrb.zero).toArray,by kernel_rfl,by kernel_rfl⟩
instance:Zk Tryz.prog 138 Rec bY (Rec.zero) 35 56:=⟨.agg (bY Rec.zero).toArray,by kernel_rfl,by kernel_rfl⟩
instance:Zk Tryz.prog 358 Sv cS ((none,0,0)) 1 24:=⟨.slice none 0 0,by kernel_rfl,by kernel_rfl⟩
instance:Fo Tryz.prog 23 0 0 5:=⟨by kernel_rfl⟩
instance:Fo Tryz.prog 23 1 1 5:=⟨by kernel_rfl⟩
instance:Fo Tryz.prog 23 2 2 5:=⟨by kernel_rfl⟩
instance:Fo Tryz.prog 23 3 3 5:=⟨by kernel_rfl⟩
instance:Fo Tryz.prog 23 4 4 5:=⟨by kernel_rfl⟩
instance:Fo Tryz.prog 74 0 0 5:=⟨by kernel_rfl⟩
instance:Fo Tryz.prog 74 1 1 72:=⟨by kernel_rfl⟩
instance:Fo Tryz.prog 74 2 2 55:=⟨by kernel_rfl⟩
instance:Fo Tryz.prog 74 3 3 5:=⟨by kernel_rfl⟩
instance:Fo Tryz.prog 74 4 4 5:=⟨by kernel_rfl⟩
instance:Fo Tryz.prog 78 0 0 76:=⟨by kernel_rfl⟩
instance:Fo Tryz.prog 85 0 0 3:=⟨by kernel_rfl⟩
instance:Fo Tryz.prog 85 1 1 31:=⟨by kernel_rfl⟩
instance:Fo Tryz.prog 85 2 17 26:=⟨by kernel_rfl⟩
instance:Fo Tryz.prog 85 3 49 78:=⟨by kernel_rfl⟩
instance:Fo Tryz.prog 85 4 50 80:=⟨by kernel_rfl⟩
instance:Fo Tryz.prog 85 5 84 81:=⟨by kernel_rfl⟩
instance:Fo Tryz.prog 85 6 85 82:=⟨by kernel_rfl⟩
instance:Fo Tryz.prog 85 7 86 83:=⟨by kernel_rfl⟩
instance:Fo Tryz.prog 89 0 0 5:=⟨by kernel_rfl⟩
instance:Fo Tryz.prog 89 1 1 87:=⟨by kernel_rfl⟩
instance:Fo Tryz.prog 89 4 4 55:=⟨by kernel_rfl⟩
instance:Fo Tryz.prog 193 1 1 174:=⟨by kernel_rfl⟩
instance:Fo Tryz.prog 209 0 0 4:=⟨by kernel_rfl⟩
instance:Fo Tryz.prog 209 1 1 9:=⟨by kernel_rfl⟩
instance:Fo Tryz.prog 402 1 1 49:=⟨by kernel_rfl⟩
instance:Fo Tryz.prog 456 0 0 454:=⟨by kernel_rfl⟩
instance:Zc Tryz.prog 5 ([.int .u8 0]):=⟨by kernel_rfl,fun w=>by kernel_rfl⟩
instance:Zc Tryz.prog 24 ([.int .u64 0]):=⟨by kernel_rfl,fun w=>by kernel_rfl⟩
instance:Zc Tryz.prog 26 (ay Dig.zero):=⟨by kernel_rfl,fun w=>by kernel_rfl⟩
instance:Zc Tryz.prog 28 (bq SCfg.zero):=⟨by kernel_rfl,fun w=>by kernel_rfl⟩
instance:Zc Tryz.prog 78 ([.slice none 0 0]):=⟨by kernel_rfl,fun w=>by kernel_rfl⟩
instance:Zc Tryz.prog 142 (dy SMpr.zero):=⟨by kernel_rfl,fun w=>by kernel_rfl⟩
instance:Zc Tryz.prog 209 ([.bool false, .string ⟨#[]⟩]):=⟨by kernel_rfl,fun w=>by kernel_rfl⟩
instance:Zc Tryz.prog 351 ([.pointer none]):=⟨by kernel_rfl,fun w=>by kernel_rfl⟩
instance:Zc Tryz.prog 544 (bE (List.replicate 256 0)):=⟨by kernel_rfl,fun w=>by kernel_rfl⟩
instance:Zc Tryz.prog 546 ([.int .u8 0, .int .u8 0, .int .u8 0, .int .u8 0, .int .u8 0, .int .u8 0, .int .u8 0, .int .u8 0, .int .u8 0, .int .u8 0, .int .u8 0, .int .u8 0, .int .u8 0, .int .u8 0, .int .u8 0, .int .u8 0]):=⟨by kernel_rfl,fun w=>by kernel_rfl⟩
instance:Ze Tryz.prog 358 1:=⟨.slice none 0 0,by kernel_rfl⟩
instance:Bst Tryz.prog 33 [(0,16),(16,32)] (bC Key.zero):=⟨by kernel_rfl, .agg (bC Key.zero).toArray,by kernel_rfl,rfl⟩
instance:Bar Tryz.prog 66 1 (ay Dig.zero):=⟨⟨5,32,by kernel_rfl,by kernel_rfl⟩, .agg (ay Dig.zero).toArray,by kernel_rfl,rfl⟩
instance:Bst Tryz.prog 209 [(0,1),(1,1)] ([.bool false, .string ⟨#[]⟩]):=⟨by kernel_rfl, .agg ([.bool false, .string ⟨#[]⟩]).toArray,by kernel_rfl,rfl⟩
instance:Bst Tryz.prog 402 [(0,1),(1,1)] (xP SFlt.zero):=⟨by kernel_rfl, .agg (xP SFlt.zero).toArray,by kernel_rfl,rfl⟩
instance:Bar Tryz.prog 416 1 ([.int .i64 0, .int .i64 0]):=⟨⟨3,2,by kernel_rfl,by kernel_rfl⟩, .agg ([.int .i64 0, .int .i64 0]).toArray,by kernel_rfl,rfl⟩
instance:Bar Tryz.prog 479 1 (fX (WA.zero 64)):=⟨⟨63,64,by kernel_rfl,by kernel_rfl⟩, .agg (fX (WA.zero 64)).toArray,by kernel_rfl,rfl⟩
instance:Bst Tryz.prog 569 [(0,1)] ([.string ⟨#[]⟩]):=⟨by kernel_rfl, .agg ([.string ⟨#[]⟩]).toArray,by kernel_rfl,rfl⟩
instance:Ip Tryz.prog 20:=⟨by kernel_rfl⟩
instance:Zt Tryz.prog 66 (ay Dig.zero):=⟨trivial⟩
instance:Zt Tryz.prog 80 (aL Cel.zero):=⟨trivial⟩
instance:Zt Tryz.prog 138 (bY Rec.zero):=⟨trivial⟩
instance:Zt Tryz.prog 212 (kT R4.zero):=⟨trivial⟩
instance:Zt Tryz.prog 214 (c6 Ent.zero):=⟨trivial⟩
instance:Zt Tryz.prog 215 (kO E4.zero):=⟨trivial⟩
instance:Zt Tryz.prog 262 (jj (List.replicate 4 false)):=⟨trivial⟩
instance:Fu Tryz.prog 2 Tryz.f2:=⟨Tryz.func2⟩
instance:Fu Tryz.prog 3 Tryz.f3:=⟨Tryz.func3⟩
instance:Fu Tryz.prog 4 Tryz.f4:=⟨Tryz.func4⟩
instance:Fu Tryz.prog 5 Tryz.f5:=⟨Tryz.func5⟩
instance:Fu Tryz.prog 6 Tryz.f6:=⟨Tryz.func6⟩
instance:Fu Tryz.prog 8 Tryz.f8:=⟨Tryz.func8⟩
instance:Fu Tryz.prog 22 Tryz.f22:=⟨Tryz.func22⟩
instance:Fu Tryz.prog 23 Tryz.f23:=⟨Tryz.func23⟩
instance:Fu Tryz.prog 27 Tryz.f27:=⟨Tryz.func27⟩
instance:Fu Tryz.prog 28 Tryz.f28:=⟨Tryz.func28⟩
instance:Fu Tryz.prog 29 Tryz.f29:=⟨Tryz.func29⟩
instance:Fu Tryz.prog 30 Tryz.f30:=⟨Tryz.func30⟩
instance:Fu Tryz.prog 31 Tryz.f31:=⟨Tryz.func31⟩
instance:Fu Tryz.prog 37 Tryz.f37:=⟨Tryz.func37⟩
instance:Fu Tryz.prog 40 Tryz.f40:=⟨Tryz.func40⟩
instance:Fu Tryz.prog 44 Tryz.f44:=⟨Tryz.func44⟩
instance:Fu Tryz.prog 47 Tryz.f47:=⟨Tryz.func47⟩
instance:Fu Tryz.prog 60 Tryz.f60:=⟨Tryz.func60⟩
instance:Fu Tryz.prog 93 Tryz.f93:=⟨Tryz.func93⟩
instance:Fu Tryz.prog 94 Tryz.f94:=⟨Tryz.func94⟩
instance:Fu Tryz.prog 95 Tryz.f95:=⟨Tryz.func95⟩
instance:Fu Tryz.prog 96 Tryz.f96:=⟨Tryz.func96⟩
instance:Fu Tryz.prog 97 Tryz.f97:=⟨Tryz.func97⟩
instance:Fu Tryz.prog 98 Tryz.f98:=⟨Tryz.func98⟩
instance:Fu Tryz.prog 99 Tryz.f99:=⟨Tryz.func99⟩
instance:Fu Tryz.prog 100 Tryz.f100:=⟨Tryz.func100⟩
instance:Fu Tryz.prog 101 Tryz.f101:=⟨Tryz.func101⟩
instance:Fu Tryz.prog 102 Tryz.f102:=⟨Tryz.func102⟩
instance:Fu Tryz.prog 103 Tryz.f103:=⟨Tryz.func103⟩
instance:Fu Tryz.prog 104 Tryz.f104:=⟨Tryz.func104⟩
instance:Fu Tryz.prog 105 Tryz.f105:=⟨Tryz.func105⟩
instance:Fu Tryz.prog 106 Tryz.f106:=⟨Tryz.func106⟩
instance:Fu Tryz.prog 107 Tryz.f107:=⟨Tryz.func107⟩
instance:Fu Tryz.prog 109 Tryz.f109:=⟨Tryz.func109⟩
instance:Fu Tryz.prog 113 Tryz.f113:=⟨Tryz.func113⟩
instance:Fu Tryz.prog 114 Tryz.f114:=⟨Tryz.func114⟩
instance:Fu Tryz.prog 115 Tryz.f115:=⟨Tryz.func115⟩
instance:Fu Tryz.prog 116 Tryz.f116:=⟨Tryz.func116⟩
instance:Fu Tryz.prog 117 Tryz.f117:=⟨Tryz.func117⟩
instance:Fu Tryz.prog 134 Tryz.f134:=⟨Tryz.func134⟩
instance:Fu Tryz.prog 189 Tryz.f189:=⟨Tryz.func189⟩
instance:Fu Tryz.prog 194 Tryz.f194:=⟨Tryz.func194⟩
instance:Fu Tryz.prog 195 Tryz.f195:=⟨Tryz.func195⟩
instance:Fu Tryz.prog 196 Tryz.f196:=⟨Tryz.func196⟩
instance:Fu Tryz.prog 197 Tryz.f197:=⟨Tryz.func197⟩
instance:Fu Tryz.prog 198 Tryz.f198:=⟨Tryz.func198⟩
instance:Fu Tryz.prog 199 Tryz.f199:=⟨Tryz.func199⟩
instance:Fu Tryz.prog 200 Tryz.f200:=⟨Tryz.func200⟩
instance:Fu Tryz.prog 201 Tryz.f201:=⟨Tryz.func201⟩
instance:Fu Tryz.prog 202 Tryz.f202:=⟨Tryz.func202⟩
instance:Fu Tryz.prog 203 Tryz.f203:=⟨Tryz.func203⟩
instance:Fu Tryz.prog 206 Tryz.f206:=⟨Tryz.func206⟩
instance:Fu Tryz.prog 256 Tryz.f256:=⟨Tryz.func256⟩
instance:Fu Tryz.prog 258 Tryz.f258:=⟨Tryz.func258⟩
instance:Fu Tryz.prog 261 Tryz.f261:=⟨Tryz.func261⟩
instance:Fu Tryz.prog 262 Tryz.f262:=⟨Tryz.func262⟩
instance:Fu Tryz.prog 263 Tryz.f263:=⟨Tryz.func263⟩
instance:Fu Tryz.prog 264 Tryz.f264:=⟨Tryz.func264⟩
instance:Fu Tryz.prog 265 Tryz.f265:=⟨Tryz.func265⟩
instance:Fu Tryz.prog 304 Tryz.f304:=⟨Tryz.func304⟩
instance:Fu Tryz.prog 305 Tryz.f305:=⟨Tryz.func305⟩
instance:Fu Tryz.prog 306 Tryz.f306:=⟨Tryz.func306⟩
instance:Fu Tryz.prog 307 Tryz.f307:=⟨Tryz.func307⟩
instance:Fu Tryz.prog 308 Tryz.f308:=⟨Tryz.func308⟩
instance:Fu Tryz.prog 309 Tryz.f309:=⟨Tryz.func309⟩
instance:Fu Tryz.prog 335 Tryz.f335:=⟨Tryz.func335⟩
instance:Fu Tryz.prog 336 Tryz.f336:=⟨Tryz.func336⟩
instance:Fu Tryz.prog 337 Tryz.f337:=⟨Tryz.func337⟩
instance:Fu Tryz.prog 342 Tryz.f342:=⟨Tryz.func342⟩
instance:Fu Tryz.prog 343 Tryz.f343:=⟨Tryz.func343⟩
instance:Fu Tryz.prog 345 Tryz.f345:=⟨Tryz.func345⟩
instance:Fu Tryz.prog 346 Tryz.f346:=⟨Tryz.func346⟩
instance:Fu Tryz.prog 347 Tryz.f347:=⟨Tryz.func347⟩
instance:Fu Tryz.prog 348 Tryz.f348:=⟨Tryz.func348⟩
instance:Fu Tryz.prog 349 Tryz.f349:=⟨Tryz.func349⟩
instance:Fu Tryz.prog 370 Tryz.f370:=⟨Tryz.func370⟩
instance:Fu Tryz.prog 389 Tryz.f389:=⟨Tryz.func389⟩
instance:Fu Tryz.prog 397 Tryz.f397:=⟨Tryz.func397⟩
end Go.Proofs.YtbobhnldhpjdlaaGreatDoor
namespace Go.Cs
open Go Go.RowKit
theorem KC (e f g:UInt32):(e&&&f)|||(~~~e&&&g)=(e&&&f)^^^(~~~e&&&g):=by
 apply UInt32.toBitVec_inj.1
 ext i hi
 simp
 cases e.toBitVec[i]<;>simp
theorem Iv (a b c:UInt32):(a&&&b)|||(a&&&c)|||(b&&&c)=(a&&&b)^^^(a&&&c)^^^(b&&&c):=by
 apply UInt32.toBitVec_inj.1
 ext i hi
 simp
 cases a.toBitVec[i]<;>cases b.toBitVec[i]<;>cases c.toBitVec[i]<;>rfl
end Go.Cs
namespace Go.Proofs.YtbobhnldhpjdlaaGreatDoor
open Go Go.RowKit Go.Cs Go.Cz
set_option maxRecDepth 100000
set_option maxHeartbeats 2000000
theorem M3 {P:Program} {O:List It} {F:List Pt} {T:TypeId} {x y:Operand} {i j:Int} {a b:Nat} [hi:Ni i a] [hj:Ni j b] (h2:a<18446744073709551616) (h:0<b:=by omega):Yv P O F (Ak.bin .quo T x y (.int .u64 i) (.int .u64 j)) (vQ (a/b)):=aC fun w=>by
 cases hi.ni;cases hj.ni
 have hb:¬((b:Int)=0):=by omega
 have e:(Ak.bin .quo T x y (vQ a) (vQ b)).sem.run P w=(if (b:Int)=0 then (runtimePanic (.error "integer divide by zero"):Sem Value) else pure (.int .u64 (IntKind.u64.wrap ((a:Int).tdiv (b:Int))))).run P w:=rfl
 have hq:∀q:Nat,q≤a→IntKind.u64.wrap (q:Int)=(q:Int):=fun q hq=>mF (k:= .u64) rfl rfl (by show q<18446744073709551616;omega)
 rw [e,if_neg hb,IA,hq _ (Nat.div_le_self a b)];rfl
theorem GL (v sz:Nat) (h0:0<sz) (hp:sz≤8) (hv:v<2^64):Zp Tryz.prog 308 [vQ v,vI sz] [] [] Nat (fun _=>True) (fun b=> .slice (some ⟨b,0,none⟩) sz sz) (fun b=> [iB b (bE (be v sz)) 5]) (fun _=> []):=by
 refine ak fun G=> ?_
 (repeat' ((try refine aw ?_);(conv=>arg 4;whnf);first | refine az ?_ |(refine sN ?_;intro b)| fail));(all_goals refine av ?_)
 refine cN (X:=Nat) (fun k=> [(0,vQ (v/256^k)),(6,if k<sz then vI (sz-1-k) else .int .i64 (-1))]) (fun k=>k≤sz) (fun k=> [iB b (bE (pick sz (fun j=>decide (sz-1-j<k)) fun j=>UInt8.ofNat (v/256^(sz-1-j)))) 5]) (fun k=>sz-k) 0 (Nat.zero_le _) ?_ ?_ ?_
 ·show _=_
  simp only [if_pos h0,Nat.pow_zero,Nat.div_one,Nat.sub_zero];rfl
 ·rw [nT _ _ _ (by simp),bL];exact ar _
 intro k hk
 by_cases h:k<sz
 ·simp only [if_pos h]
  have hv2:v/256^k<2^64:=Nat.lt_of_le_of_lt (Nat.div_le_self _ _) hv
  have hc:((v/256^k%256:Nat):Int)=((UInt8.ofNat (v/256^(sz-1-(sz-1-k)))).toNat:Int):=by rw [show sz-1-(sz-1-k)=k by omega];rfl
  (repeat' ((try refine aw ?_);(conv=>arg 4;whnf);first | refine az ?_ |(refine sN ?_;intro b)| fail));(all_goals refine av ?_)
  rw [hc]
  (repeat' ((try refine aw ?_);(conv=>arg 4;whnf);first | refine az ?_ |(refine sN ?_;intro b)| fail));(all_goals refine av ?_)
  refine nF (M3 hv2) ?_
  (repeat' ((try refine aw ?_);(conv=>arg 4;whnf);first | refine az ?_ |(refine sN ?_;intro b)| fail));(all_goals refine av ?_)
  refine nF (EH (by omega)) ?_
  (repeat' ((try refine aw ?_);(conv=>arg 4;whnf);first | refine az ?_ |(refine sN ?_;intro b)| fail));(all_goals refine av ?_)
  refine a5 (k+1) ?_ ?_ ?_ ?_
  ·show _=_
   by_cases h2:k+1<sz
   ·simp only [if_pos h2]
    rw [Nat.pow_succ,←Nat.div_div_eq_div_mul,show sz-1-(k+1)=sz-1-k-1 by omega]
    have e:(((sz-1-k:Nat):Int)-1)=((sz-1-k-1:Nat):Int):=by omega
    rw [e];rfl
   ·simp only [if_neg h2]
    rw [Nat.pow_succ,←Nat.div_div_eq_div_mul]
    have e:(((sz-1-k:Nat):Int)-1)= -1:=by omega
    rw [e];rfl
  ·exact h
  ·rw [n5 sz (fun j=>decide (sz-1-j<k)) (fun j=>decide (sz-1-j<k+1)) (fun j=>UInt8.ofNat (v/256^(sz-1-j))) (sz-1-k) _ (by omega) rfl (by intro j hj;rw [Bool.eq_iff_iff];simp;omega)]
   exact ar _
  ·omega
 ·simp only [if_neg h]
  (repeat' ((try refine aw ?_);(conv=>arg 4;whnf);first | refine az ?_ |(refine sN ?_;intro b)| fail));(all_goals refine av ?_)
  refine aD b True.intro rfl ?_
  rw [qt _ _ _ (by intro j hj;simp;omega)];exact ar _
theorem yB {y:UInt32}:Zp Tryz.prog 264 [vw y] [] [] Nat (fun _=>True) (fun b=> .slice (some ⟨b,0,none⟩) 4 4) (fun b=> [iB b (bE (be y.toNat 4)) 5]) (fun _=> []):=by
 refine ak fun G=> ?_
 have hx:=y.toNat_lt
 (repeat' ((try refine aw ?_);(conv=>arg 4;whnf);first | refine az ?_ |(refine aA (GL y.toNat 4 (by decide) (by decide) (by omega)) ?_;intro x hx;refine aH ?_)| fail));(all_goals refine av ?_)
 exact aD x True.intro rfl (ar _)
theorem tm {n:Nat} (hn:n<2^64):Zp Tryz.prog 304 [.int .u64 (n:Int)] [] [] Nat (fun _=>True) (fun b=> .slice (some ⟨b,0,none⟩) 8 8) (fun b=> [iB b (bE (be n 8)) 5]) (fun _=> []):=by
 refine ak fun G=> ?_
 (repeat' ((try refine aw ?_);(conv=>arg 4;whnf);first | refine az ?_ |(refine aA (GL n 8 (by decide) (by decide) hn) ?_;intro x hx;refine aH ?_)| fail));(all_goals refine av ?_)
 exact aD x True.intro rfl (ar _)
theorem MW {a:Option Addr} {n c:Nat} {l:List UInt8} (sz:Nat) (hp:sz≤8):Zp Tryz.prog 335 [.slice a n c,vI sz] [] [Sl cB a n c l] Unit (fun _=>True) (fun _=> .tuple #[vQ (dz l sz),vI (np l sz)]) (fun _=> []) (fun _=> []):=by
 refine ak fun G=> ?_
 refine aS 0 ?_
 intro hn hc hm ha
 (repeat' ((try refine aw ?_);(conv=>arg 4;whnf);first | refine az ?_ |(refine sC ?_ ?_<;>intro h)| fail));(all_goals refine av ?_)
 ·exact aD () True.intro (by rw [uC (by omega),tH (by omega)];rfl) (am _)
 ·exact aD () True.intro (by rw [uC (by omega),xY (by omega)];rfl) (am _)
 refine cN (X:=Nat) (fun i=> [(6,vQ (kV (l.take i))),(7,vI i)]) (fun i=>i≤sz) (fun i=> []) (fun i=>sz-i) 0 (by omega) rfl (ar _) ?_
 intro i hi
 have hb:=(l.getD i default).toNat_lt
 by_cases h:i<n
 ·obtain ⟨b,o,rfl⟩:=ha (by omega) (by decide)
  have hn3:=oN (l:=l) (i:=i) (by omega)
  (repeat' ((try refine aw ?_);(conv=>arg 4;whnf);first | refine az ?_ |(refine sC ?_ ?_<;>intro h)| fail));(all_goals refine av ?_)
  refine a5 (i+1) ?_ ?_ (ar _) ?_
  ·show _=_
   rw [yC (by omega),show byt l i=(l.getD i default).toNat from rfl];rfl
  ·omega
  ·omega
 ·(repeat' ((try refine aw ?_);(conv=>arg 4;whnf);first | refine az ?_ |(refine sC ?_ ?_<;>intro h)| fail));(all_goals refine av ?_)
  exact aD () True.intro (by rw [pP (by omega),C8 (by omega),List.take_of_length_le (by omega)];rfl) (am _)
end Go.Proofs.YtbobhnldhpjdlaaGreatDoor
namespace Go.Cs
theorem oU {n l:Nat} (h1:1≤n) (h:n≤4096) (hl:l≤hgt n):cnt n l=1↔l=hgt n:=by
 constructor
 ·intro e
  rcases Nat.lt_or_ge l (hgt n) with h2 | h2
  ·have:=Ad h2;omega
  ·omega
 ·rintro rfl;exact eg h1 h
end Go.Cs
namespace Go.Proofs.YtbobhnldhpjdlaaGreatDoor
open Go Go.RowKit Go.Cs Go.Cz
set_option maxRecDepth 100000
set_option maxHeartbeats 4000000
section
variable {n:Nat}
theorem iF {l:Nat} (h1:1≤n) (h2:n≤4096) (hl:l≤hgt n):Zp Tryz.prog 101 [vI n,vI l] [] [] Unit (fun _=>True) (fun _=>vI (cnt n l)) (fun _=> []) (fun _=> []):=by
 have h5:=a8 n
 refine ak fun G=> ?_
 (repeat' ((try refine aw ?_);(conv=>arg 4;whnf);first | refine aO ?_ |(refine sC ?_ ?_<;>intro h)| exact ax | fail));(all_goals refine av ?_)
 refine cN (X:=Nat) (fun i=> [(5,vI (und n i)),(6,vI i)]) (fun i=>i≤l+1) (fun _=> []) (fun i=>l+1-i) 0 (Nat.zero_le _) rfl (ar _) ?_
 intro i hi
 have hu:=wp n i
 have e:und n (i+1)=(und n i+3)/4:=rfl
 by_cases h:i≤l
 ·have h3:0<i→2≤und n i:=fun h0=>by
   obtain ⟨j,rfl⟩:∃j,i=j+1:=⟨i-1,by omega⟩
   exact Ad (by omega)
  (repeat' ((try refine aw ?_);(conv=>arg 4;whnf);first | refine aO ?_ |(refine sC ?_ ?_<;>intro h)| exact ax | fail));(all_goals refine av ?_)
  all_goals (
   refine a5 (i+1) rfl ?_ (ar _) ?_
   ·omega
   ·omega)
 ·obtain rfl:i=l+1:=by omega
  (repeat' ((try refine aw ?_);(conv=>arg 4;whnf);first | refine aO ?_ |(refine sC ?_ ?_<;>intro h)| exact ax | fail));(all_goals refine av ?_)
  first | done | exact aD () True.intro rfl (am _)
theorem s7 {b l:Nat} (h2:b≤4096) (hl:l≤6):Zp Tryz.prog 199 [vI b,vI l] [] [] Unit (fun _=>True) (fun _=>vI (idx b l)) (fun _=> []) (fun _=> []):=by
 refine ak fun G=> ?_
 (repeat' ((try refine aw ?_);(conv=>arg 4;whnf);first | refine aO ?_ | exact ax | fail));(all_goals refine av ?_)
 refine cN (X:=Nat) (fun i=> [(5,vI (idx b i)),(6,vI i)]) (fun i=>i≤l) (fun _=> []) (fun i=>l-i) 0 (Nat.zero_le _) rfl (ar _) ?_
 intro i hi
 have hb:idx b i≤4096:=by
  have:∀i,idx b i≤b:=fun i=>by induction i with
   | zero=>exact Nat.div_le_self _ _
   | succ i ih=>exact Nat.le_trans (Nat.div_le_self _ _) ih
  exact Nat.le_trans (this i) h2
 by_cases h:i<l
 ·(repeat' ((try refine aw ?_);(conv=>arg 4;whnf);first | refine aO ?_ | exact ax | fail));(all_goals refine av ?_)
  refine a5 (i+1) rfl ?_ (ar _) ?_
  ·omega
  ·omega
 ·obtain rfl:i=l:=by omega
  (repeat' ((try refine aw ?_);(conv=>arg 4;whnf);first | refine aO ?_ | exact ax | fail));(all_goals refine av ?_)
theorem ny (h1:1≤n) (h2:n≤4096):Zp Tryz.prog 100 [vI n] [] [] Unit (fun _=>True) (fun _=>vI (hgt n)) (fun _=> []) (fun _=> []):=by
 have h5:=a8 n
 refine ak fun G=> ?_
 (repeat' ((try refine aw ?_);(conv=>arg 4;whnf);first | refine aO ?_ | exact ax | fail));(all_goals refine av ?_)
 refine cN (X:=Nat) (fun i=> [(3,vI i)]) (fun i=>i≤hgt n) (fun _=> []) (fun i=>hgt n-i) 0 (Nat.zero_le _) rfl (ar _) ?_
 intro i hi
 have hcn:=cH n i
 have hio:=oU h1 h2 hi
 by_cases h:i<hgt n
 ·have hne:¬cnt n i=1:=fun e=>by have:=hio.1 e;omega
  (repeat' ((try refine aw ?_);(conv=>arg 4;whnf);first | refine aO ?_ |(refine aA (iF h1 h2 hi) ?_;intro x hx;refine aH ?_)| exact ax | fail));(all_goals refine av ?_)
  refine a5 (i+1) rfl ?_ (ar _) ?_
  ·omega
  ·omega
 ·have he:cnt n i=1:=hio.2 (by omega)
  obtain rfl:i=hgt n:=by omega
  (repeat' ((try refine aw ?_);(conv=>arg 4;whnf);first | refine aO ?_ |(refine aA (iF h1 h2 hi) ?_;intro x hx;refine aH ?_)| exact ax | fail));(all_goals refine av ?_)
  first | done | exact aD () True.intro rfl (am _)
theorem Au {l:Nat} (h1:1≤n) (h2:n≤4096) (hl:l≤hgt n+1):Zp Tryz.prog 196 [vI n,vI l] [] [] Unit (fun _=>True) (fun _=>vI (bas n l)) (fun _=> []) (fun _=> []):=by
 have h5:=a8 n
 refine ak fun G=> ?_
 (repeat' ((try refine aw ?_);(conv=>arg 4;whnf);first | refine aO ?_ | exact ax | fail));(all_goals refine av ?_)
 refine cN (X:=Nat) (fun i=> [(5,vI (bas n i)),(6,vI i)]) (fun i=>i≤l) (fun _=> []) (fun i=>l-i) 0 (Nat.zero_le _) rfl (ar _) ?_
 intro i hi
 have hcn:=cH n i
 have hbl:bas n i≤8192*(i+1):=by
  have:∀i,bas n i≤8192*(i+1):=fun i=>by induction i with
   | zero=>show 2*n≤_;omega
   | succ i ih=>have:=cH n i;show bas n i+2*cnt n i≤_;omega
  exact this i
 by_cases h:i<l
 ·(repeat' ((try refine aw ?_);(conv=>arg 4;whnf);first | refine aO ?_ |(refine aA (iF h1 h2 (show i≤hgt n by omega)) ?_;intro x hx;refine aH ?_)| exact ax | fail));(all_goals refine av ?_)
  refine a5 (i+1) rfl ?_ (ar _) ?_
  ·omega
  ·omega
 ·obtain rfl:i=l:=by omega
  (repeat' ((try refine aw ?_);(conv=>arg 4;whnf);first | refine aO ?_ | exact ax | fail));(all_goals refine av ?_)
  first | done | exact aD () True.intro rfl (am _)
theorem Ie (h1:1≤n) (h2:n≤4096):Zp Tryz.prog 95 [vI n] [] [] Unit (fun _=>True) (fun _=>vI (bas n (hgt n+1))) (fun _=> []) (fun _=> []):=by
 have h5:=a8 n
 refine ak fun G=> ?_
 (repeat' ((try refine aw ?_);(conv=>arg 4;whnf);first | refine aO ?_ |((first | refine aA (ny h1 h2) ?_ | refine aA (Au h1 h2 (Nat.le_refl _)) ?_);intro x hx;refine aH ?_)| exact ax | fail));(all_goals refine av ?_)
theorem Bj {l j s:Nat} (h1:1≤n) (h2:n≤4096) (hl:l≤hgt n) (hj:j≤4096) (hs:s≤1):Zp Tryz.prog 105 [vI n,vI l,vI j,vI s] [] [] Unit (fun _=>True) (fun _=>vI (bas n l+2*j+s)) (fun _=> []) (fun _=> []):=by
 have h5:=a8 n
 have hb:bas n l≤8192*(l+1):=by
  have:∀i,bas n i≤8192*(i+1):=fun i=>by induction i with
   | zero=>show 2*n≤_;omega
   | succ i ih=>have:=cH n i;show bas n i+2*cnt n i≤_;omega
  exact this l
 refine ak fun G=> ?_
 (repeat' ((try refine aw ?_);(conv=>arg 4;whnf);first | refine aO ?_ |(refine aA (Au h1 h2 (show l≤hgt n+1 by omega)) ?_;intro x hx;refine aH ?_)| exact ax | fail));(all_goals refine av ?_)
theorem IM {b s:Nat} (h2:b≤4096) (hs:s≤1):Zp Tryz.prog 98 [vI b,vI s] [] [] Unit (fun _=>True) (fun _=>vI (2*b+s)) (fun _=> []) (fun _=> []):=by
 refine ak fun G=> ?_
 (repeat' ((try refine aw ?_);(conv=>arg 4;whnf);first | refine aO ?_ | exact ax | fail));(all_goals refine av ?_)
theorem yt {l j:Nat} (h1:1≤n) (h2:n≤4096) (hl:l≤hgt n) (hj:j≤4096):Zp Tryz.prog 202 [vI n,vI l,vI j] [] [] Unit (fun _=>True) (fun _=>vI (prt n l j)) (fun _=> []) (fun _=> []):=by
 have h5:=a8 n
 have hu:=wp n l
 refine ak fun G=> ?_
 have hp:prt n l j=min 4 (und n l-4*j):=rfl
 rw [hp]
 by_cases h0:0<l
 ·have e:und n l=cnt n (l-1):=by obtain ⟨m,rfl⟩:∃m,l=m+1:=⟨l-1,by omega⟩;rfl
  (repeat' ((try refine aw ?_);(conv=>arg 4;whnf);first | refine aO ?_ |(refine aA (iF h1 h2 (show l-1≤hgt n by omega)) ?_;intro x hx;refine aH ?_)| exact ax | fail));(all_goals refine av ?_)
  rw [←e]
  generalize und n l=U at*
  refine cN (X:=Nat) (fun i=> [(8,vI (min i (U-4*j))),(9,vI i)]) (fun i=>i≤4) (fun _=> []) (fun i=>4-i) 0 (Nat.zero_le _) (by show _=_;rw [Nat.zero_min];rfl) (ar _) ?_
  intro i hi
  by_cases h:i<4
  ·by_cases h3:4*j+i<U
   ·(repeat' ((try refine aw ?_);(conv=>arg 4;whnf);first | refine aO ?_ | exact ax | fail));(all_goals refine av ?_)
    refine a5 (i+1) ?_ ?_ (ar _) ?_
    ·show _=_
     rw [show min (i+1) (U-4*j)=min i (U-4*j)+1 by omega];rfl
    ·omega
    ·omega
   ·(repeat' ((try refine aw ?_);(conv=>arg 4;whnf);first | refine aO ?_ | exact ax | fail));(all_goals refine av ?_)
    refine a5 (i+1) ?_ ?_ (ar _) ?_
    ·show _=_
     rw [show min (i+1) (U-4*j)=min i (U-4*j) by omega];rfl
    ·omega
    ·omega
  ·obtain rfl:i=4:=by omega
   (repeat' ((try refine aw ?_);(conv=>arg 4;whnf);first | refine aO ?_ | exact ax | fail));(all_goals refine av ?_)
   first | done | exact aD () True.intro rfl (am _)
 ·obtain rfl:l=0:=by omega
  (repeat' ((try refine aw ?_);(conv=>arg 4;whnf);first | refine aO ?_ | exact ax | fail));(all_goals refine av ?_)
  rw [show und n 0=n from rfl]
  refine cN (X:=Nat) (fun i=> [(8,vI (min i (n-4*j))),(9,vI i)]) (fun i=>i≤4) (fun _=> []) (fun i=>4-i) 0 (Nat.zero_le _) (by show _=_;rw [Nat.zero_min];rfl) (ar _) ?_
  intro i hi
  by_cases h:i<4
  ·by_cases h3:4*j+i<n
   ·(repeat' ((try refine aw ?_);(conv=>arg 4;whnf);first | refine aO ?_ | exact ax | fail));(all_goals refine av ?_)
    refine a5 (i+1) ?_ ?_ (ar _) ?_
    ·show _=_
     rw [show min (i+1) (n-4*j)=min i (n-4*j)+1 by omega];rfl
    ·omega
    ·omega
   ·(repeat' ((try refine aw ?_);(conv=>arg 4;whnf);first | refine aO ?_ | exact ax | fail));(all_goals refine av ?_)
    refine a5 (i+1) ?_ ?_ (ar _) ?_
    ·show _=_
     rw [show min (i+1) (n-4*j)=min i (n-4*j) by omega];rfl
    ·omega
    ·omega
  ·obtain rfl:i=4:=by omega
   (repeat' ((try refine aw ?_);(conv=>arg 4;whnf);first | refine aO ?_ | exact ax | fail));(all_goals refine av ?_)
   first | done | exact aD () True.intro rfl (am _)
theorem kP (n:Nat):∀l,num n l≤n*l
 | 0=>Nat.le_refl _
 | l+1=>by have:=kP n l;have:=cH n l;show num n l+cnt n l≤_;rw [Nat.mul_succ];omega
theorem nW {l j:Nat} (h1:1≤n) (h2:n≤4096) (hl:l≤hgt n+1) (hj:j≤4096):Zp Tryz.prog 106 [vI n,vI l,vI j] [] [] Unit (fun _=>True) (fun _=>vI (num n l+j)) (fun _=> []) (fun _=> []):=by
 have h5:=a8 n
 refine ak fun G=> ?_
 (repeat' ((try refine aw ?_);(conv=>arg 4;whnf);first | refine aO ?_ | exact ax | fail));(all_goals refine av ?_)
 refine cN (X:=Nat) (fun i=> [(7,vI (num n i+j)),(8,vI i)]) (fun i=>i≤l) (fun _=> []) (fun i=>l-i) 0 (Nat.zero_le _) (by show _=_;rw [show num n 0+j=j from Nat.zero_add j];rfl) (ar _) ?_
 intro i hi
 have hnl:=Nat.le_trans (kP n i) (Nat.mul_le_mul h2 (show i≤6 by omega))
 have hcn:=cH n i
 by_cases h:i<l
 ·(repeat' ((try refine aw ?_);(conv=>arg 4;whnf);first | refine aO ?_ |(refine aA (iF h1 h2 (show i≤hgt n by omega)) ?_;intro x hx;refine aH ?_)| exact ax | fail));(all_goals refine av ?_)
  refine a5 (i+1) ?_ ?_ (ar _) ?_
  ·show _=_
   rw [show num n (i+1)+j=num n i+j+cnt n i by show num n i+cnt n i+j=_;omega];rfl
  ·omega
  ·omega
 ·obtain rfl:i=l:=by omega
  (repeat' ((try refine aw ?_);(conv=>arg 4;whnf);first | refine aO ?_ | exact ax | fail));(all_goals refine av ?_)
  first | done | exact aD () True.intro rfl (am _)
theorem tT (h1:1≤n) (h2:n≤4096):Zp Tryz.prog 99 [vI n] [] [] Unit (fun _=>True) (fun _=>vI (tot n)) (fun _=> []) (fun _=> []):=by
 have h5:=a8 n
 have hnl:=Nat.le_trans (kP n (hgt n)) (Nat.mul_le_mul h2 h5)
 have e:tot n=num n (hgt n)+0+1:=by show num n (hgt n)+cnt n (hgt n)=_;rw [eg h1 h2]
 rw [e]
 refine ak fun G=> ?_
 (repeat' ((try refine aw ?_);(conv=>arg 4;whnf);first | refine aO ?_ |((first | refine aA (ny h1 h2) ?_ | refine aA (nW (j:=0) h1 h2 (show hgt n≤hgt n+1 by omega) (Nat.zero_le _)) ?_);intro x hx;refine aH ?_)| exact ax | fail));(all_goals refine av ?_)
theorem tB {L:List Rec} {a:Option Addr} {m c l j:Nat} (h2:L.length≤4096) (hl:l≤6):Zp Tryz.prog 102 [.slice a m c,vI l,vI j] [] [Sl bY a m c L] Unit (fun _=>True) (fun _=> .bool (bK L l j)) (fun _=> []) (fun _=> []):=by
 refine ak fun G=> ?_
 refine aS 0 ?_
 intro hm _ _ ha
 subst hm
 (repeat' ((try refine aw ?_);(conv=>arg 4;whnf);first | refine aO ?_ |(refine sC ?_ ?_<;>intro h)| exact ax | fail));(all_goals refine av ?_)
 refine cN (X:=Nat) (fun i=> [(7,vI i)]) (fun i=>i≤L.length∧∀k,k<i→idx k l=j→(L.getD k Rec.zero).st=0) (fun _=> []) (fun i=>L.length-i) 0 ⟨Nat.zero_le _,fun k hk=>absurd hk (Nat.not_lt_zero _)⟩ rfl (ar _) ?_
 rintro i ⟨hi,hq⟩
 by_cases hlt:i<L.length
 ·obtain ⟨b1,b2,rfl⟩:=ha (by omega) (by decide)
  by_cases he:idx i l=j
  ·by_cases hs:(L.getD i Rec.zero).st=0
   ·(repeat' ((try refine aw ?_);(conv=>arg 4;whnf);first | refine aO ?_ |(refine sC ?_ ?_<;>intro h)|(refine aA (s7 (b:=i) (l:=l) (by omega) hl) ?_;intro x hx;refine aH ?_)| exact ax | fail));(all_goals refine av ?_)
    ·exact (h (by show ((L.getD i Rec.zero).st:Int)=0;rw [hs];rfl)).elim
    ·refine a5 (i+1) rfl ⟨hlt,fun k hk hkl=> ?_⟩ (ar _) ?_
     ·rcases Nat.lt_succ_iff_lt_or_eq.1 hk with h9 | rfl
      ·exact hq k h9 hkl
      ·exact hs
     ·omega
   ·have eeb:bK L l j=false:=Bool.eq_false_iff.2 fun e=>hs (a9.1 e i hlt he)
    (repeat' ((try refine aw ?_);(conv=>arg 4;whnf);first | refine aO ?_ |(refine sC ?_ ?_<;>intro h)|(refine aA (s7 (b:=i) (l:=l) (by omega) hl) ?_;intro x hx;refine aH ?_)| exact ax | fail));(all_goals refine av ?_)
    ·exact aD () True.intro (by rw [eeb];rfl) (am _)
    ·have h8:((L.getD i Rec.zero).st:Int)=0:=by first | exact Classical.not_not.1 h
     exact (hs (by omega)).elim
  ·(repeat' ((try refine aw ?_);(conv=>arg 4;whnf);first | refine aO ?_ |(refine sC ?_ ?_<;>intro h)|(refine aA (s7 (b:=i) (l:=l) (by omega) hl) ?_;intro x hx;refine aH ?_)| exact ax | fail));(all_goals refine av ?_)
   refine a5 (i+1) rfl ⟨hlt,fun k hk hkl=> ?_⟩ (ar _) ?_
   ·rcases Nat.lt_succ_iff_lt_or_eq.1 hk with h9 | rfl
    ·exact hq k h9 hkl
    ·exact absurd hkl he
   ·omega
 ·obtain rfl:i=L.length:=by omega
  rw [a9.2 hq]
  (repeat' ((try refine aw ?_);(conv=>arg 4;whnf);first | refine aO ?_ |(refine sC ?_ ?_<;>intro h)| exact ax | fail));(all_goals refine av ?_)
  first | done | exact aD () True.intro rfl (am _)
end
end Go.Proofs.YtbobhnldhpjdlaaGreatDoor
namespace Go.Proofs.YtbobhnldhpjdlaaGreatDoor
open Go Go.RowKit Go.Cs Go.Cz
set_option maxRecDepth 100000
set_option maxHeartbeats 4000000
theorem ka {x:UInt32} {k:Nat} (h1:1≤k) (h2:k≤31):Zp Tryz.prog 336 [vw x,vI k] [] [] Unit (fun _=>True) (fun _=>vw (rr x k)) (fun _=> []) (fun _=> []):=by
 refine ak fun G=> ?_
 (repeat' ((try refine aw ?_);(conv=>arg 4;whnf);first | refine az ?_ | fail));(all_goals refine av ?_)
 refine aD () True.intro ?_ (am _)
 rw [UInt32.or_comm,Ig x h1 h2];rfl
theorem Ht:Zp Tryz.prog 305 [] [] [] Unit (fun _=>True) (fun _=> .tuple #[vA (fX kA),vA (fW ye)]) (fun _=> []) (fun _=> []):=by
 refine ak fun G=> ?_
 (repeat' ((try refine aw ?_);(conv=>arg 4;whnf);first | refine az ?_ |(refine sN ?_;intro b)| exact ax | fail));(all_goals refine av ?_)
 refine nF (qF (sz:=1) (zs:=fX (WA.zero 64)) (cs':=fX kA) (p:=True) (hb:=⟨fun _=>by kernel_rfl⟩) True.intro) ?_
 (repeat' ((try refine aw ?_);(conv=>arg 4;whnf);first | refine az ?_ |(refine sN ?_;intro b)| exact ax | fail));(all_goals refine av ?_)
 refine nF (qF (sz:=1) (zs:=fW (WA.zero 8)) (cs':=fW ye) (p:=True) (hb:=⟨fun _=>by kernel_rfl⟩) True.intro) ?_
 (repeat' ((try refine aw ?_);(conv=>arg 4;whnf);first | refine az ?_ |(refine sN ?_;intro b)| exact ax | fail));(all_goals refine av ?_)
theorem L9 {h:WA 8} {bs:List UInt8} {a:Option Addr} {n c:Nat} (hb:bs.length=64):Zp Tryz.prog 306 [vA (fW h), .slice a n c] [] [Sl cB a n c bs] Unit (fun _=>True) (fun _=>vA (fW (cmpr h bs))) (fun _=> []) (fun _=> []):=by
 refine ak fun G=> ?_
 refine aS 0 ?_
 intro hn hc hm ha
 obtain ⟨a1,a2,rfl⟩:=ha (by omega) (by decide)
 (repeat' ((try refine aw ?_);(conv=>arg 4;whnf);first | refine az ?_ |(refine sN ?_;intro b)|(refine aA Ht ?_;intro x hx;refine aH ?_)| fail));(all_goals refine av ?_)
 refine dh [b] (X:=Nat) (fun i=> [(8,vI i)]) (fun i=>i≤64) (fun i=> [iB b (fX (schd bs i)) 479]) (fun i=>64-i) 0 (Nat.zero_le _) rfl (by (((repeat' (first | with_reducible exact ar _ | exact am _ | refine aE ?_ ?_ | fail))<;>(try with_reducible rfl)))<;>rfl) ?_
 intro i hi
 (conv=>arg 2;simp only [List.cons_append,List.nil_append])
 by_cases h64:i<64
 ·by_cases h1:i<16
  ·(repeat' ((try refine aw ?_);(conv=>arg 4;whnf);first | refine az ?_ |(refine sN ?_;intro b)|(refine aA (MW 4 (by decide)) ?_;intro x hx;refine aH ?_)| fail));(all_goals refine av ?_)
   refine jV (i+1) h64 (by
    rw [show 4*i+4-4*i=4 by omega,AT h1 rfl]
    (((repeat' (first | with_reducible exact ar _ | exact am _ | refine aE ?_ ?_ | fail))<;>(try with_reducible rfl)))) (by omega) bu
  ·(repeat' ((try refine aw ?_);(conv=>arg 4;whnf);first | refine aO ?_ |(refine sN ?_;intro b)| fail));(all_goals refine av ?_)
   (first | refine bF rfl rfl ?_ |(refine bh ?_;(conv=>arg 4;whnf);refine bc rfl ?_))
   (repeat' ((try refine aw ?_);(conv=>arg 4;whnf);first | refine aO ?_ |(refine sN ?_;intro b)| fail));(all_goals refine av ?_)
   (first | refine bF rfl rfl ?_ |(refine bh ?_;(conv=>arg 4;whnf);refine bc rfl ?_))
   (repeat' ((try refine aw ?_);(conv=>arg 4;whnf);first | refine aO ?_ |(refine sN ?_;intro b)|((first | refine aA (ka (k:=7) (by decide) (by decide)) ?_ | refine aA (ka (k:=18) (by decide) (by decide)) ?_ | refine aA (ka (k:=17) (by decide) (by decide)) ?_ | refine aA (ka (k:=19) (by decide) (by decide)) ?_);intro x hx;refine aH ?_)| fail));(all_goals refine av ?_)
   refine jV (i+1) h64 ?_ (by omega) bu
   rw [BH h1 ?_]
   ·(((repeat' (first | with_reducible exact ar _ | exact am _ | refine aE ?_ ?_ | fail))<;>(try with_reducible rfl)))
   ·rfl
 obtain ⟨W,hW⟩:∃W,W=schd bs i:=⟨_,rfl⟩
 rw [←hW]
 obtain rfl:i=64:=by omega
 (repeat' ((try refine aw ?_);(conv=>arg 4;whnf);first | refine aO ?_ |(refine sN ?_;intro b)| fail));(all_goals refine av ?_)
 (first | refine bF rfl rfl ?_ |(refine bh ?_;(conv=>arg 4;whnf);refine bc rfl ?_))
 (repeat' ((try refine aw ?_);(conv=>arg 4;whnf);first | refine aO ?_ |(refine sN ?_;intro b)| fail));(all_goals refine av ?_)
 refine dh [] (X:=Nat) (fun i=> [(13,vw ((rnds h W i).l.getD 0 default)),(14,vw ((rnds h W i).l.getD 1 default)),(15,vw ((rnds h W i).l.getD 2 default)),(16,vw ((rnds h W i).l.getD 3 default)),(17,vw ((rnds h W i).l.getD 4 default)),(18,vw ((rnds h W i).l.getD 5 default)),(19,vw ((rnds h W i).l.getD 6 default)),(20,vw ((rnds h W i).l.getD 7 default)),(21,vI i)]) (fun i=>i≤64) (fun _=> []) (fun i=>64-i) 0 (Nat.zero_le _) rfl cD ?_
 intro i hi
 (conv=>arg 2;simp only [List.cons_append,List.nil_append])
 by_cases h6:i<64
 ·obtain ⟨S,hS⟩:∃S,S=rnds h W i:=⟨_,rfl⟩
  rw [←hS]
  (repeat' ((try refine aw ?_);(conv=>arg 4;whnf);first | refine aO ?_ |(refine sN ?_;intro b)| fail));(all_goals refine av ?_)
  (first | refine bF rfl rfl ?_ |(refine bh ?_;(conv=>arg 4;whnf);refine bc rfl ?_))
  (repeat' ((try refine aw ?_);(conv=>arg 4;whnf);first | refine aO ?_ |(refine sN ?_;intro b)|((first | refine aA (ka (k:=6) (by decide) (by decide)) ?_ | refine aA (ka (k:=11) (by decide) (by decide)) ?_ | refine aA (ka (k:=25) (by decide) (by decide)) ?_ | refine aA (ka (k:=2) (by decide) (by decide)) ?_ | refine aA (ka (k:=13) (by decide) (by decide)) ?_ | refine aA (ka (k:=22) (by decide) (by decide)) ?_);intro x hx;refine aH ?_)| fail));(all_goals refine av ?_)
  simp only [xnot,KC,Iv]
  subst hS
  exact jV (i+1) h6 cD (by omega) bu
 ·obtain ⟨X,hX⟩:∃X,X=rnds h W i:=⟨_,rfl⟩
  rw [←hX]
  (repeat' ((try refine aw ?_);(conv=>arg 4;whnf);first | refine aO ?_ |(refine sN ?_;intro b)| fail));(all_goals refine av ?_)
  refine aD () True.intro ?_ (am _)
  obtain rfl:i=64:=by omega
  rw [Hj,←hW,←hX];rfl
end Go.Proofs.YtbobhnldhpjdlaaGreatDoor
