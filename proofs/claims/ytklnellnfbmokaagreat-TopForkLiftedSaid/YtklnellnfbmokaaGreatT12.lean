/-
Lemmas of one proof, the texts Tab to L1 joined.
-/
import Derived.Test.YtklnellnfbmokaaGreatT11
import Derived.Test.YtklnellnfbmokaaGreatChecked
set_option linter.unusedSimpArgs false
set_option linter.unusedVariables false
open Nat (reduceEqDiff reduceAdd reduceMul reduceSub reduceLeDiff reduceLT)

namespace Go.Sim
open Go
def goodM:Nat:=2854495385411919762116571938898990272765493244
def freshM:Nat:=696941033048113546811457757299603507511296
def freeM:Nat:=93587554006629728390032881539465342139498560
def twiceM:Nat:=151116159797392874405888
def refM:Nat:=20771722735490883853861261963952128
def refT:Nat:=2852213926071379879282476056576
abbrev oD (k m:Nat):OpI:=⟨.data,k,m,[]⟩
abbrev oL (k m:Nat):OpI:=⟨.load,k,m,[]⟩
abbrev oR (k m:Nat):OpI:=⟨.read,k,m,[]⟩
abbrev oF (k m:Nat):OpI:=⟨.fresh,k,m,[]⟩
abbrev oW (k m:Nat):OpI:=⟨.writeAt,k,m,[]⟩
def q3_14:List OpI:=[oL 0 0,oD 0 0,oD 0 0,oL 0 4,oD 0 14,⟨.writeAt,0,1,[3]⟩,oD 1 63]
def q3_16:List OpI:=[oL 0 0,oD 0 0,oD 0 0,oR 0 4,oR 0 15,oD 0 31,oD 0 63,oD 0 63,oD 0 63,oF 0 0,oW 1 639,oW 2 1791,oD 3 4095]
def q3_35:List OpI:=[oD 0 0,oR 0 1,oD 0 0,oL 0 4,oD 0 15,oR 0 31,oD 0 0]
def q3_42:List OpI:=[oD 0 0,oD 0 1,oD 0 3,oD 0 7,oD 0 7,oL 0 23,oD 0 63,oD 0 127,oD 0 255,oD 0 511,oL 0 1023,oD 0 511,oD 0 4095,oD 0 8191,oL 0 16383,oD 0 511,oD 0 33279,oR 0 98815,oD 0 229887,oD 0 524287,oD 0 1048575]
def q4_34:List OpI:=[oD 0 0,oD 0 1,oD 0 3,oD 0 7,oL 0 15,oD 0 7,oD 0 39,oL 0 103,oD 0 231,oD 0 511,oD 0 1023,oD 0 2047,oD 0 4095,oL 0 8191,oR 0 16383,oD 0 4095,oR 0 36863,oD 0 102399,oD 0 4095,oL 0 266239,oD 0 1019903,oD 0 2097151,oD 0 4194303]
def q4_53:List OpI:=[oL 0 0,oD 0 0,oL 0 2,oD 0 0,oD 0 14,oL 0 30,oD 0 63,oD 0 127,oD 0 255,oL 0 511,oD 0 255,oD 0 255,oD 0 3327,oD 0 7423,oR 0 15615,oD 0 31999,oD 0 65535,oD 0 131071]
def q6_2:List OpI:=[oD 0 0,oD 0 0,oD 0 2,oL 0 6,oW 0 15,⟨.load,0,0,[4]⟩,oR 1 63,oD 1 127]
def q6_4:List OpI:=[oD 0 0,oD 0 0,oD 0 2,oL 0 6,oL 0 0,oD 0 16,oW 0 62,oD 1 127,oW 1 255]
def q9_1:List OpI:=[oL 0 0,oR 0 1,oL 0 0,oR 0 7,oD 0 15,oR 0 31,oD 0 63]
def q9_4:List OpI:=[oD 0 0,oL 0 1,oR 0 3,oD 0 0,oL 0 8,oR 0 31]
def q10_1:List OpI:=[oL 0 0,oR 0 1,oL 0 0,oR 0 7,oD 0 0,oR 0 31,oD 0 63,oR 0 127,oD 0 255]
def q10_4:List OpI:=[oD 0 0,oL 0 1,oD 0 0,oL 0 4,oR 0 12,oD 0 31,oD 0 63,oD 0 127,oL 0 255,oD 0 127,oL 0 639,oD 0 2047,oD 0 4095,oD 0 8191,oD 0 16383,oL 0 32767,oD 0 16383,oL 0 81919,oD 0 262143,oR 0 524287,oD 0 16383,oL 0 1064959,oR 0 4194303,oD 0 8388607,oD 0 16777215]
def q10_6:List OpI:=[oL 0 0,oR 0 1,oL 0 0,oR 0 7,oW 0 15,oW 1 31]
def q10_13:List OpI:=[oL 0 0,oL 0 0,oD 0 0,oL 0 4,oD 0 0,oL 0 16,oR 0 60,oD 0 126,oR 0 255,oW 0 511]
def q10_18:List OpI:=[oL 0 0,oL 0 0,⟨.writeAt,0,1,[1]⟩,oW 1 7,oD 2 15]
def q21_8:List OpI:=[oL 0 0,oR 0 1,oD 0 0,oL 0 4,oD 0 0,oD 0 16,oD 0 60,oR 0 127,oD 0 0,oL 0 256,oD 0 768,oD 0 2047,oD 0 4095,oD 0 8191,oR 0 16383,oD 0 0,oL 0 32768,oD 0 131071,oD 0 262143,oD 0 524287,oD 0 1048575,oR 0 2097151,oD 0 4194303,oR 0 8388607,oD 0 16777215]
def q22_1:List OpI:=[oD 0 0,oL 0 1,oR 0 3,oD 0 0,oL 0 8,oR 0 31,oD 0 0,oL 0 64,oR 0 255,oD 0 511,oR 0 1023,oD 0 2047]
def q25_6:List OpI:=[oD 0 0,oD 0 0,oD 0 2,oD 0 0,oL 0 0,oD 0 30,oD 0 62,oW 0 127,oD 0 0,⟨.load,0,256,[7]⟩,oD 1 1023,oW 1 2047,oD 2 4095]
def q26_1:List OpI:=[oD 0 0,oL 0 1,oR 0 3,oD 0 0,oL 0 8,oR 0 24,oD 0 56,oR 0 127,oD 0 255,oR 0 511,oD 0 1023]
def q26_8:List OpI:=[oL 0 0,oR 0 1,oD 0 0,oD 0 0,oL 0 8,oR 0 28,oR 0 63,oD 0 127,oR 0 255,oD 0 511]
def q28_6:List OpI:=[oD 0 0,oD 0 0,oD 0 3,oL 0 7,oD 0 0,oD 0 0,oD 0 48,oL 0 112,oD 0 255]
def q38_4:List OpI:=[oD 0 0,oD 0 1,oD 0 3,oD 0 0,oD 0 8,oD 0 24,oD 0 0,oR 0 120,oD 0 0,oR 0 504,oD 0 1016,oR 0 2040,oD 0 4095,oD 0 8191]
def q45_1:List OpI:=[oF 0 0,oD 0 0,oL 0 2,oR 1 7,oD 1 15,oD 1 31,oD 1 31,oF 0 0,oW 2 191,oD 3 511]
def q45_2:List OpI:=[oD 0 0,oL 0 1,oR 0 3,oD 0 0,oD 0 8,oR 0 31,oD 0 0,oL 0 64,oR 0 192,oD 0 0,oL 0 512,oR 0 1536,oD 0 4032,oD 0 8191,oD 0 16383,oL 0 32767,oR 0 65535,oD 0 16383,oL 0 147455,oD 0 524287,oD 0 1048575,oR 0 2097151,oD 0 4194303,oR 0 8388607,oD 0 16777215]
def q46_1:List OpI:=[oD 0 0,oL 0 1,oD 0 0,oD 0 4,oD 0 12,oL 0 28,oR 0 60,oD 0 124,oD 0 255]
def q46_6:List OpI:=[oD 0 0,oD 0 1,oD 0 3,oL 0 7,oD 0 0,oD 0 16,oD 0 48,oL 0 112,oR 0 240,oD 0 496,oD 0 1023,oD 0 2047,oL 0 4095,oD 0 8191]
def q46_8:List OpI:=[oD 0 0,oL 0 1,oD 0 3,oL 0 7,oD 0 0,oD 0 16,oD 0 48,oD 0 112,oL 0 240,oD 0 511]
def q46_10:List OpI:=[oF 0 0,oD 0 0,oL 0 2,oR 1 7,oF 0 0,oW 2 31]
def q46_11:List OpI:=[oD 0 0,oD 0 1,oD 0 3,oL 0 0,oL 0 0,oR 0 31,oD 0 63]
def q46_14:List OpI:=[oD 0 0,oL 0 1,oD 0 0,oD 0 4,oD 0 12,oL 0 0,⟨.write,0,63,[]⟩,oD 1 127]
def q47_7:List OpI:=[oD 0 0,oL 0 1,oR 0 3,oD 0 0,oL 0 8,oL 0 0,oD 0 56,oR 0 127,oD 0 255,oR 0 511,oD 0 1023]
def q49_2:List OpI:=[oD 0 0,oL 0 1,oD 0 0,oL 0 0,oR 0 12,oD 0 31,oD 0 63,oD 0 127,oL 0 255,oD 0 511,oD 0 1023,oD 0 2047,oR 0 4095,oD 0 8191,oD 0 16383,oD 0 32767]
def q49_5:List OpI:=[oD 0 0,oF 0 1,oD 0 0,oL 0 4,oD 0 12,oW 1 31,oD 2 63,oD 2 127]
def q60_2:List OpI:=[oD 0 0,oD 0 0,oD 0 2,oD 0 6,oL 0 14,oL 0 0,oD 0 32,oW 0 126,oD 1 255,oD 1 511,oW 1 1023]
def q60_4:List OpI:=[oD 0 0,oD 0 0,oD 0 2,oD 0 6,oL 0 14,oD 0 0,oD 0 32,oD 0 96,oL 0 224,oR 0 480,oD 0 992,oD 0 2046,oD 0 4095,oD 0 8191,oW 0 16383]
def q60_6:List OpI:=[oD 0 0,oD 0 0,oD 0 2,oD 0 6,oL 0 14,oL 0 0,oD 0 32,oW 0 126,oD 1 255,oD 1 511,oW 1 1023]
def q60_7:List OpI:=[oF 0 0,oD 0 0,oL 0 2,oR 1 7,oD 1 15,oD 0 0,oD 0 32,oD 0 96,oL 0 0,⟨.write,1,511,[]⟩]
def q65_1:List OpI:=[oD 0 0,oD 0 1,oD 0 3,oL 0 7,oD 0 0,oR 0 16,oD 0 0,oR 0 112,oD 0 255,oD 0 511]
def q76_9:List OpI:=[oD 0 0,oD 0 0,oR 0 3,oD 0 0,oL 0 8,oD 0 0,oD 0 56,oL 0 120,oR 0 255,oD 0 511]
def q81_1:List OpI:=[oD 0 0,oL 0 1,oR 0 3,oF 0 7,oD 0 0,oL 0 16,oR 0 48,oF 0 112,oD 1 15,oD 2 511]
def q82_5:List OpI:=[oF 0 0,oD 0 0,oL 0 2,oR 1 7,oD 1 15,oL 0 0,⟨.write,1,63,[]⟩]
def q97_1:List OpI:=[oD 0 0,oL 0 1,oD 0 3,oL 0 7,oR 0 15,oD 0 0,oD 0 32,oD 0 96,oL 0 224,oR 0 480,oD 0 992,oR 0 2047,oD 0 4095,oR 0 8191,oD 0 16383]
def q98_1:List OpI:=[oD 0 0,oD 0 0,oD 0 2,oD 0 6,oL 0 14,oD 0 0,oL 0 32,oD 0 96,oL 0 224,oD 0 0,oL 0 512,oD 0 1536,oL 0 3584,oD 0 8160,oD 0 16352,oW 0 32766,oD 1 65535,oD 1 131071,oW 1 262143]
def q99_2:List OpI:=[oD 0 0,oD 0 0,oL 0 2,oD 0 6,oL 0 14,oR 0 30,oD 0 0,oD 0 64,oD 0 192,oL 0 448,oR 0 960,oD 0 1984,oR 0 4094,oD 0 8191,oR 0 16383,oD 0 32767]
def q100_1:List OpI:=[oD 0 0,oL 0 1,oD 0 3,oL 0 7,oD 0 0,oL 0 16,oD 0 48,oL 0 112,oD 0 255,oF 0 0,oW 1 1023]
def q100_2:List OpI:=[oL 0 0,oD 0 0,oL 0 2,oD 0 0,oL 0 8,oD 0 30,oD 0 62,oD 0 126,oL 0 254,oD 0 510,oD 0 1022,oR 0 2046,oW 0 4095,oD 1 8191]
def q101_2:List OpI:=[oD 0 0,oD 0 0,oD 0 2,oD 0 6,oL 0 14,oD 0 0,oL 0 32,oD 0 96,oL 0 224,oD 0 0,oL 0 512,oD 0 1536,oL 0 3584,oL 0 0,oD 0 0,oL 0 16384,oD 0 49152,oL 0 114688,oD 0 262112,oD 0 524256,oW 0 1048574,oD 1 2097151,oD 1 4194303,oW 1 8388607]
def q102_2:List OpI:=[oD 0 0,oD 0 1,oD 0 3,oL 0 7,oR 0 15,oD 0 0,oD 0 32,oD 0 96,oL 0 224,oR 0 511,oD 0 1023,oR 0 2047,oD 0 4095]
def q103_1:List OpI:=[oD 0 0,oD 0 1,oD 0 3,oL 0 7,oD 0 0,oR 0 16,oD 0 0,oR 0 112,oD 0 255,oD 0 511]
def q105_1:List OpI:=[oD 0 0,oD 0 0,oL 0 2,oD 0 6,oL 0 14,oF 0 31,oD 0 0,oD 0 0,oL 0 128,oD 0 384,oL 0 896,oF 1 2047,oD 2 4095,oD 2 8191]
def q105_2:List OpI:=[oD 0 0,oD 0 1,oD 0 3,oD 0 7,oL 0 15,oD 0 0,oD 0 32,oD 0 96,oD 0 224,oL 0 480,oD 0 1023,oD 0 2047,oD 0 4095,oD 0 8191,oD 0 16383,oD 0 32767,oL 0 65535,oD 0 4095,oD 0 135167,oD 0 397311,oD 0 921599,oL 0 1970175,oD 0 4194303,oD 0 8388607,oD 0 16777215]
def q105_3:List OpI:=[oD 0 0,oD 0 1,oD 0 3,oL 0 7,oR 0 15,oD 0 0,oD 0 32,oD 0 96,oL 0 224,oD 0 511,oD 0 1023,oD 0 2047,oD 0 4095,oL 0 8191,oD 0 1023,oD 0 17407,oD 0 50175,oL 0 115711,oD 0 262143,oD 0 524287,oD 0 1048575,oD 0 2097151,oD 0 4194303,oR 0 8388607,oD 0 0,oD 0 0,oD 0 33554432,oD 0 100663296,oL 0 234881024,oR 0 536870911,oD 0 0,oD 0 2147483647,oR 0 4294967295,oD 0 8589934591,oR 0 17179869183,oD 0 34359738367]
def q107_1:List OpI:=[oD 0 0,oL 0 1,oD 0 3,oL 0 7,oD 0 0,oL 0 16,oD 0 48,oL 0 112,oD 0 15,oD 0 511]
def q107_2:List OpI:=[oD 0 0,oD 0 0,oR 0 3,oR 0 7,oD 0 0,oD 0 0,oR 0 63,oR 0 127,oD 0 0,oD 0 256,oD 0 1023,oD 0 2047,oD 0 2047,oD 0 2047,oR 0 14335,oD 0 32767,oD 0 65535,oR 0 131071,oD 0 0,oD 0 262144,oD 0 786432,oL 0 1835008,oR 0 3932160,oD 0 8126464,oR 0 16777215,oD 0 33554431,oR 0 67108863,oD 0 134217727]
def q108_1:List OpI:=[oD 0 0,oD 0 0,oD 0 2,oD 0 6,oL 0 14,oD 0 0,oL 0 32,oD 0 96,oL 0 224,oD 0 0,oL 0 512,oD 0 1536,oL 0 3584,oD 0 0,oL 0 8192,oD 0 24576,oL 0 57344,oD 0 131040,oD 0 262112,oW 0 524286,oD 1 1048575,oD 1 2097151,oW 1 4194303]
def q112_1:List OpI:=[oD 0 0,oL 0 1,oD 0 0,oL 0 4,oD 0 12,oL 0 28,oD 0 63,oD 0 127]
def q113_4:List OpI:=[oD 0 0,oD 0 0,oR 0 2,oD 0 0,oL 0 0,oL 0 0,oR 0 62,oR 0 126,oD 0 0,oD 0 256,oD 0 768,oL 0 1792,oR 0 3840,oD 0 7936,oR 0 16382,oD 0 32767,oR 0 65535,oD 0 131071]
def q114_2:List OpI:=[oD 0 0,oD 0 0,oD 0 2,oD 0 6,oL 0 14,oD 0 0,oL 0 32,oD 0 96,oL 0 224,oD 0 0,oL 0 512,oD 0 1536,oL 0 3584,oL 0 0,oD 0 16352,oD 0 32736,oW 0 65534,oD 1 131071,oD 1 262143,oW 1 524287]
def q119_1:List OpI:=[oD 0 0,oD 0 1,oD 0 3,oL 0 7,oD 0 15,oR 0 31,oD 0 0,oD 0 0,oD 0 128,oD 0 384,oL 0 896,oR 0 2047,oD 0 0,oD 0 8191,oR 0 16383,oD 0 32767,oR 0 65535,oD 0 131071]
def q122_1:List OpI:=[oD 0 0,oD 0 1,oD 0 3,oL 0 7,oD 0 15,oR 0 31,oD 0 0,oD 0 64,oD 0 192,oL 0 448,oR 0 960,oD 0 1984,oR 0 4095,oD 0 8191,oR 0 16383,oD 0 32767]
def q123_1:List OpI:=[oD 0 0,oD 0 0,oD 0 2,oD 0 6,oL 0 14,oD 0 0,oL 0 32,oD 0 96,oL 0 224,oD 0 0,oL 0 512,oD 0 1536,oL 0 3584,oD 0 8160,oD 0 16352,oW 0 32766,oD 1 65535,oD 1 131071,oW 1 262143]
def q126_1:List OpI:=[oD 0 0,oL 0 1,oD 0 0,oL 0 4,oD 0 12,oL 0 28,oD 0 63,oD 0 127]
def q127_1:List OpI:=[oD 0 0,oL 0 1,oD 0 3,oL 0 7,oR 0 15,oD 0 0,oD 0 32,oD 0 96,oL 0 224,oD 0 480,oR 0 1023,oD 0 0,oD 0 2048,oD 0 6144,oL 0 14336,oD 0 0,oL 0 32768,oD 0 98304,oL 0 229376,oD 0 522240,oD 0 1046528,oR 0 2097151,oD 0 4194303,oR 0 8388607,oD 0 16777215]
def q128_1:List OpI:=[oD 0 0,oD 0 1,oD 0 3,oL 0 7,oD 0 0,oL 0 16,oD 0 48,oL 0 112,oD 0 255,oD 0 511,oD 0 1023,oW 0 2047]
def q129_1:List OpI:=[oD 0 0,oL 0 1,oD 0 3,oL 0 7,oR 0 15,oD 0 0,oD 0 32,oD 0 96,oL 0 224,oD 0 0,oL 0 512,oD 0 1536,oL 0 3584,oD 0 8160,oR 0 16383,oD 0 32767,oR 0 65535,oD 0 131071]
def q130_1:List OpI:=[oD 0 0,oD 0 1,oD 0 3,oL 0 7,oD 0 0,oL 0 16,oD 0 48,oL 0 112,oD 0 255,oD 0 511,oD 0 1023,oW 0 2047]
def q131_1:List OpI:=[oD 0 0,oD 0 1,oD 0 3,oL 0 7,oR 0 15,oD 0 0,oD 0 32,oD 0 96,oL 0 224,oD 0 480,oR 0 1023,oD 0 2047,oR 0 4095,oD 0 8191]
def q133_1:List OpI:=[oD 0 0,oL 0 1,oD 0 3,oL 0 7,oR 0 15,oD 0 0,oD 0 32,oD 0 96,oL 0 224,oD 0 480,oR 0 1023,oD 0 2047,oR 0 4095,oD 0 8191]
def q134_1:List OpI:=[oD 0 0,oD 0 0,oD 0 0,oD 0 0,oD 0 8,oD 0 24,oL 0 56,oD 0 120,oD 0 0,oL 0 256,oD 0 768,oL 0 1792,oD 0 3961,oD 0 8057,oW 0 16249,oD 1 32763,oD 1 65531,oW 1 131067,oD 2 262143,oD 2 524287,oW 2 1048575]
def q135_1:List OpI:=[oD 0 0,oD 0 0,oD 0 2,oD 0 6,oL 0 14,oR 0 31,oR 0 63,oD 0 127,oR 0 255,oD 0 0,oD 0 512,oD 0 1536,oL 0 3584,oD 0 7680,oR 0 16383,oD 0 32767,oR 0 65535,oD 0 131071]
def q138_2:List OpI:=[oD 0 0,oD 0 1,oD 0 3,oL 0 7,oD 0 15,oR 0 31,oD 0 0,oL 0 64,oD 0 192,oL 0 448,oR 0 1023,oD 0 0,oL 0 2048,oD 0 6144,oL 0 14336,oD 0 0,oD 0 32768,oD 0 98304,oL 0 229376,oD 0 522240,oR 0 1048575,oD 0 2097151,oR 0 4194303,oD 0 8388607]
def q139_1:List OpI:=[oD 0 0,oD 0 1,oD 0 3,oL 0 7,oD 0 0,oR 0 16,oD 0 0,oR 0 112,oD 0 255,oD 0 511]
def q146_1:List OpI:=[oL 0 0,oD 0 0,oD 0 0,oL 0 4,oD 0 12,oL 0 28,oF 0 62,oL 0 0,⟨.write,1,255,[]⟩]
noncomputable def planT:TT (List (Nat × List OpI)) :=
 (.node [] (.node [] (.node [(14,q3_14),(16,q3_16),(35,q3_35),(42,q3_42)] (.node [] (.node [] (.node [] (.node [] (.node [(1,q127_1)] .leaf
 .leaf)
 .leaf)
 .leaf)
 (.node [(7,q47_7)] .leaf
 .leaf))
 (.node [] (.node [] (.node [] (.node [(1,q135_1)] .leaf
 .leaf)
 .leaf)
 (.node [(1,q103_1)] .leaf
 .leaf))
 (.node [] .leaf
 (.node [(1,q119_1)] .leaf
 .leaf))))
 (.node [] (.node [] (.node [] (.node [] (.node [(1,q131_1)] .leaf
 .leaf)
 .leaf)
 (.node [(2,q99_2)] .leaf
 .leaf))
 .leaf)
 (.node [] (.node [] (.node [] (.node [(1,q139_1)] .leaf
 .leaf)
 .leaf)
 (.node [(1,q107_1),(2,q107_2)] .leaf
 .leaf))
 (.node [] .leaf
 (.node [(1,q123_1)] .leaf
 .leaf)))))
 (.node [] (.node [(1,q9_1),(4,q9_4)] (.node [] (.node [] (.node [(1,q65_1)] (.node [(1,q129_1)] .leaf
 .leaf)
 .leaf)
 (.node [(1,q97_1)] .leaf
 .leaf))
 (.node [(2,q49_2),(5,q49_5)] (.node [(1,q81_1)] .leaf
 .leaf)
 (.node [(4,q113_4)] .leaf
 .leaf)))
 (.node [(6,q25_6)] (.node [] .leaf
 (.node [(1,q105_1),(2,q105_2),(3,q105_3)] .leaf
 .leaf))
 .leaf))
 (.node [] (.node [(8,q21_8)] (.node [] (.node [] (.node [(1,q133_1)] .leaf
 .leaf)
 .leaf)
 (.node [(2,q101_2)] .leaf
 .leaf))
 .leaf)
 (.node [] (.node [(1,q45_1),(2,q45_2)] .leaf
 .leaf)
 .leaf))))
 (.node [] (.node [(34,q4_34),(53,q4_53)] (.node [] (.node [] (.node [] (.node [] (.node [(1,q128_1)] .leaf
 .leaf)
 .leaf)
 .leaf)
 (.node [] .leaf
 (.node [(1,q112_1)] .leaf
 .leaf)))
 .leaf)
 (.node [] (.node [] (.node [] .leaf
 (.node [(1,q100_1),(2,q100_2)] .leaf
 .leaf))
 .leaf)
 (.node [(6,q28_6)] (.node [] (.node [(9,q76_9)] .leaf
 .leaf)
 (.node [(1,q108_1)] .leaf
 .leaf))
 (.node [(2,q60_2),(4,q60_4),(6,q60_6),(7,q60_7)] .leaf
 .leaf))))
 (.node [(2,q6_2),(4,q6_4)] (.node [(1,q10_1),(4,q10_4),(6,q10_6),(13,q10_13),(18,q10_18)] (.node [] (.node [] (.node [] (.node [(1,q130_1)] .leaf
 .leaf)
 .leaf)
 (.node [(1,q98_1)] .leaf
 .leaf))
 (.node [] (.node [(5,q82_5)] (.node [(1,q146_1)] .leaf
 .leaf)
 .leaf)
 (.node [(2,q114_2)] .leaf
 .leaf)))
 (.node [(1,q26_1),(8,q26_8)] (.node [] (.node [] (.node [(2,q138_2)] .leaf
 .leaf)
 .leaf)
 .leaf)
 (.node [] .leaf
 (.node [(1,q122_1)] .leaf
 .leaf))))
 (.node [] (.node [(1,q22_1)] (.node [(4,q38_4)] (.node [] (.node [(1,q134_1)] .leaf
 .leaf)
 .leaf)
 (.node [(2,q102_2)] .leaf
 .leaf))
 .leaf)
 (.node [] (.node [(1,q46_1),(6,q46_6),(8,q46_8),(10,q46_10),(11,q46_11),(14,q46_14)] .leaf
 .leaf)
 (.node [] .leaf
 (.node [(1,q126_1)] .leaf
 .leaf)))))))
def look2 {α:Type}:List (Nat × List α)→Nat→List α
 | [],_=>[]
 | (i,x)::r,n=>cond (Nat.beq i n) x (look2 r n)
noncomputable def NC:Cfg where
 P:=Proofs.Tryz.prog
 good:=fun f=>goodM.testBit f
 mode:=fun f=>cond (freshM.testBit f) .fresh (cond (freeM.testBit f) .free .pure)
 refApp:=fun f t=>refM.testBit f && refT.testBit t
 frz:=fun _ _=>false
 glob:=fun _=>none
 memo:=fun _ _=>none
 prim:=fun _=>none
 hprim:=fun _=>none
 twice:=fun f=>twiceM.testBit f
 plans:=fun f id=>look2 (planT.get [] f) id
end Go.Sim

namespace Go.Sim
open Go Go.Proofs
noncomputable def okF (f:Nat):Bool:=match NC.P.funcs[f]? with
 | some fn=>match fn.body with
   | some c=>!(fn.name == "runtime.NumGoroutine") && codeOk NC f fn.ntmps c
   | none=>false
 | none=>false
noncomputable def okChunk:Nat→Nat→Bool
 | _,0=>true
 | a,n+1=>(!goodM.testBit a || okF a) && okChunk (a+1) n
theorem okChunk_at:∀ {a n f:Nat},okChunk a n=true→a≤f→f < a+n→goodM.testBit f=true→okF f=true
 | a,0,f,_,h1,h2,_=>by omega
 | a,n+1,f,h,h1,h2,hg=>by
   unfold okChunk at h
   simp only [Bool.and_eq_true] at h
   by_cases e:f=a
   · subst e
     have:=h.1
     rw [hg] at this
     simpa using this
   · exact okChunk_at h.2 (by omega) (by omega) hg
theorem ok0:okChunk 0 20=true:=by kernel_rfl
theorem ok20:okChunk 20 20=true:=by kernel_rfl
theorem ok40:okChunk 40 20=true:=by kernel_rfl
theorem ok60:okChunk 60 20=true:=by kernel_rfl
theorem ok80:okChunk 80 20=true:=by kernel_rfl
theorem ok100:okChunk 100 20=true:=by kernel_rfl
theorem ok120:okChunk 120 20=true:=by kernel_rfl
theorem ok140:okChunk 140 20=true:=by kernel_rfl
theorem ok160:okChunk 160 20=true:=by kernel_rfl
theorem testBit_big {g a f:Nat} (h:g < 2 ^ a * 2 ^ a) (hf:a+a≤f):g.testBit f=false :=
 Nat.testBit_lt_two_pow (Nat.lt_of_lt_of_le h (by rw [← Nat.pow_add];exact Nat.pow_le_pow_right (by omega) hf))
theorem goodM_lt:goodM < 2 ^ 90 * 2 ^ 90:=by decide +kernel
theorem okAll (f:Nat) (hg:goodM.testBit f=true):okF f=true:=by
 have hlt:f < 180:=by
  rcases Nat.lt_or_ge f 180 with h | h
  · exact h
  · have:goodM.testBit f=false:=testBit_big goodM_lt h
    rw [this] at hg;cases hg
 by_cases h0:f < 20
 · exact okChunk_at ok0 (by omega) (by omega) hg
 by_cases h20:f < 40
 · exact okChunk_at ok20 (by omega) (by omega) hg
 by_cases h40:f < 60
 · exact okChunk_at ok40 (by omega) (by omega) hg
 by_cases h60:f < 80
 · exact okChunk_at ok60 (by omega) (by omega) hg
 by_cases h80:f < 100
 · exact okChunk_at ok80 (by omega) (by omega) hg
 by_cases h100:f < 120
 · exact okChunk_at ok100 (by omega) (by omega) hg
 by_cases h120:f < 140
 · exact okChunk_at ok120 (by omega) (by omega) hg
 by_cases h140:f < 160
 · exact okChunk_at ok140 (by omega) (by omega) hg
 by_cases h160:f < 180
 · exact okChunk_at ok160 (by omega) (by omega) hg
 omega
theorem saneNC:Sane NC where
 depth:=by decide +kernel
 orders:=by kernel_rfl
 good:=fun f hf=>by
  have h:=okAll f hf
  unfold okF at h
  split at h
  · rename_i fn hfn
    split at h
    · rename_i c hc
      simp only [Bool.and_eq_true,Bool.not_eq_true'] at h
      exact ⟨fn,c,hfn,hc,h.1,h.2⟩
    · cases h
  · cases h
 memo:=fun f args v h=>by cases h
 prim:=fun f p args v hp h lo H=>by cases hp
 hprim:=fun f p lo args H v H' hp h hl=>by cases hp
theorem rfP {P:FuncId→Option (List AV→Option AV)} {f:FuncId} {t:TypeId} (h:refM.testBit f=false):(NC.withPrims P).refApp f t=false:=by show (refM.testBit f && refT.testBit t)=false;rw [h];rfl
noncomputable def fplace (t i:Nat):Option (Nat × Nat):=match NC.P.underlying t with
 | some (.struct fs)=>fieldPlaces NC.P fs i
 | _=>none
noncomputable def faOff (t f:Nat):Option Nat:=match fieldOf NC.P t f with
 | some fd=>match szOf NC.P fd.type with
   | some (_+1)=>some fd.offset
   | _=>none
 | none=>none
def faPtr (id off:Nat):Option Nat→Option AV
 | some o=>some (.ptr id (off+o))
 | none=>none
def faPP (cs:List AV):Option Nat→Option AV
 | some o=>some (.pptr (cs.drop o))
 | none=>none
theorem faPtr_some (id off o:Nat):faPtr id off (some o)=some (.ptr id (off+o)):=rfl
theorem faPP_some (cs:List AV) (o:Nat):faPP cs (some o)=some (.pptr (cs.drop o)):=rfl
theorem fa_ptr (t f id off:Nat):afieldAddr NC.P t (.ptr id off) f=faPtr id off (faOff t f):=by
 unfold afieldAddr faOff
 cases fieldOf NC.P t f with
 | none=>rfl
 | some fd=>simp only [];cases szOf NC.P fd.type with
   | none=>rfl
   | some n=>cases n<;>rfl
theorem fa_pp (t f:Nat) (cs:List AV):afieldAddr NC.P t (.pptr cs) f=faPP cs (faOff t f):=by
 unfold afieldAddr faOff
 cases fieldOf NC.P t f with
 | none=>rfl
 | some fd=>simp only [];cases szOf NC.P fd.type with
   | none=>rfl
   | some n=>cases n<;>rfl
theorem un_22:NC.P.underlying 22=some (.slice 72):=by kernel_rfl
theorem un_23:NC.P.underlying 23=some (.slice 91):=by kernel_rfl
theorem ze_25:zeroOf NC.P 25=some (.ps .nil []):=by kernel_rfl
theorem el_28:elemOf NC.P 28=some 3:=by kernel_rfl
theorem sz_3:szOf NC.P 3=some 1:=by kernel_rfl
theorem ze_3:zeroOf NC.P 3=some (.int .i64 0):=by kernel_rfl
theorem el_51:elemOf NC.P 51=some 9:=by kernel_rfl
theorem sz_9:szOf NC.P 9=some 1:=by kernel_rfl
theorem ze_9:zeroOf NC.P 9=some (.str []):=by kernel_rfl
theorem un_9:NC.P.underlying 9=some (.string):=by kernel_rfl
theorem un_28:NC.P.underlying 28=some (.slice 3):=by kernel_rfl
theorem un_51:NC.P.underlying 51=some (.slice 9):=by kernel_rfl
theorem ze_31:zeroOf NC.P 31=some (.agg [.ps .nil [],.int .i64 0]):=by kernel_rfl
theorem bs_31 (parts:List (Nat × AV)):abuild NC.P 31 parts=match afill (fun i=>fplace 31 i) [.ps .nil [],.int .i64 0] parts with
 | some cs=>some (.agg cs)
 | none=>none:=by kernel_rfl
theorem fp_31_0:fplace 31 0=some (0,1):=by kernel_rfl
theorem fp_31_1:fplace 31 1=some (1,1):=by kernel_rfl
theorem sz_31:szOf NC.P 31=some 2:=by kernel_rfl
theorem un_32:NC.P.underlying 32=some (.slice 37):=by kernel_rfl
theorem sz_37:szOf NC.P 37=some 3:=by kernel_rfl
theorem ag_37:aggOf NC.P 37=some true:=by kernel_rfl
theorem ze_37:zeroOf NC.P 37=some (.agg [.int .i64 0,.int .i64 0,.int .i64 0]):=by kernel_rfl
theorem un_3:NC.P.underlying 3=some (.int .i64):=by kernel_rfl
theorem ag_31:aggOf NC.P 31=some true:=by kernel_rfl
theorem sz_35:szOf NC.P 35=some 2:=by kernel_rfl
theorem ag_35:aggOf NC.P 35=some true:=by kernel_rfl
theorem ag_3:aggOf NC.P 3=some false:=by kernel_rfl
theorem ze_43:zeroOf NC.P 43=some (.agg [.str [],.int .i64 0,.int .i64 0,.int .i64 0]):=by kernel_rfl
theorem bs_43 (parts:List (Nat × AV)):abuild NC.P 43 parts=match afill (fun i=>fplace 43 i) [.str [],.int .i64 0,.int .i64 0,.int .i64 0] parts with
 | some cs=>some (.agg cs)
 | none=>none:=by kernel_rfl
theorem fp_43_0:fplace 43 0=some (0,1):=by kernel_rfl
theorem fp_43_1:fplace 43 1=some (1,2):=by kernel_rfl
theorem fp_43_2:fplace 43 2=some (3,1):=by kernel_rfl
theorem ze_46:zeroOf NC.P 46=some (.agg [.int .i64 0,.ps .nil []]):=by kernel_rfl
theorem bs_46 (parts:List (Nat × AV)):abuild NC.P 46 parts=match afill (fun i=>fplace 46 i) [.int .i64 0,.ps .nil []] parts with
 | some cs=>some (.agg cs)
 | none=>none:=by kernel_rfl
theorem fp_46_0:fplace 46 0=some (0,1):=by kernel_rfl
theorem fp_46_1:fplace 46 1=some (1,1):=by kernel_rfl
theorem un_49:NC.P.underlying 49=some (.slice 61):=by kernel_rfl
theorem sz_46:szOf NC.P 46=some 2:=by kernel_rfl
theorem sz_44:szOf NC.P 44=some 1:=by kernel_rfl
theorem ag_44:aggOf NC.P 44=some false:=by kernel_rfl
theorem un_44:NC.P.underlying 44=some (.slice 43):=by kernel_rfl
theorem sz_25:szOf NC.P 25=some 1:=by kernel_rfl
theorem ag_25:aggOf NC.P 25=some false:=by kernel_rfl
theorem un_25:NC.P.underlying 25=some (.slice 70):=by kernel_rfl
theorem ag_9:aggOf NC.P 9=some false:=by kernel_rfl
theorem ze_57:zeroOf NC.P 57=some (.agg [.int .i64 0,.int .i64 0]):=by kernel_rfl
theorem un_57:NC.P.underlying 57=some (.array 2 3):=by kernel_rfl
theorem ag_46:aggOf NC.P 46=some true:=by kernel_rfl
theorem sz_43:szOf NC.P 43=some 4:=by kernel_rfl
theorem ze_61:zeroOf NC.P 61=some (.agg [.ps .nil [],.bool false]):=by kernel_rfl
theorem bs_61 (parts:List (Nat × AV)):abuild NC.P 61 parts=match afill (fun i=>fplace 61 i) [.ps .nil [],.bool false] parts with
 | some cs=>some (.agg cs)
 | none=>none:=by kernel_rfl
theorem fp_61_0:fplace 61 0=some (0,1):=by kernel_rfl
theorem fp_61_1:fplace 61 1=some (1,1):=by kernel_rfl
theorem el_49:elemOf NC.P 49=some 61:=by kernel_rfl
theorem sz_61:szOf NC.P 61=some 2:=by kernel_rfl
theorem un_64:NC.P.underlying 64=some (.array 3 5):=by kernel_rfl
theorem sz_5:szOf NC.P 5=some 1:=by kernel_rfl
theorem ag_5:aggOf NC.P 5=some false:=by kernel_rfl
theorem un_5:NC.P.underlying 5=some (.int .u8):=by kernel_rfl
theorem ag_43:aggOf NC.P 43=some true:=by kernel_rfl
theorem ze_35:zeroOf NC.P 35=some (.agg [.int .i64 0,.int .i64 0]):=by kernel_rfl
theorem bs_35 (parts:List (Nat × AV)):abuild NC.P 35 parts=match afill (fun i=>fplace 35 i) [.int .i64 0,.int .i64 0] parts with
 | some cs=>some (.agg cs)
 | none=>none:=by kernel_rfl
theorem fp_35_0:fplace 35 0=some (0,1):=by kernel_rfl
theorem fp_35_1:fplace 35 1=some (1,1):=by kernel_rfl
theorem ze_70:zeroOf NC.P 70=some (.agg [.int .i64 0,.str [],.ps .nil [],.ps .nil [],.str []]):=by kernel_rfl
theorem bs_70 (parts:List (Nat × AV)):abuild NC.P 70 parts=match afill (fun i=>fplace 70 i) [.int .i64 0,.str [],.ps .nil [],.ps .nil [],.str []] parts with
 | some cs=>some (.agg cs)
 | none=>none:=by kernel_rfl
theorem fp_70_0:fplace 70 0=some (0,1):=by kernel_rfl
theorem fp_70_1:fplace 70 1=some (1,1):=by kernel_rfl
theorem fp_70_2:fplace 70 2=some (2,1):=by kernel_rfl
theorem fp_70_3:fplace 70 3=some (3,1):=by kernel_rfl
theorem fp_70_4:fplace 70 4=some (4,1):=by kernel_rfl
theorem sz_70:szOf NC.P 70=some 5:=by kernel_rfl
theorem el_25:elemOf NC.P 25=some 70:=by kernel_rfl
theorem by_70:bytesOf NC.P 70=some 88:=by kernel_rfl
theorem ag_70:aggOf NC.P 70=some true:=by kernel_rfl
theorem sz_72:szOf NC.P 72=some 2:=by kernel_rfl
theorem ag_72:aggOf NC.P 72=some true:=by kernel_rfl
theorem ze_72:zeroOf NC.P 72=some (.agg [.int .u8 0,.int .u8 0]):=by kernel_rfl
theorem un_72:NC.P.underlying 72=some (.array 2 5):=by kernel_rfl
theorem bs_37 (parts:List (Nat × AV)):abuild NC.P 37 parts=match afill (fun i=>fplace 37 i) [.int .i64 0,.int .i64 0,.int .i64 0] parts with
 | some cs=>some (.agg cs)
 | none=>none:=by kernel_rfl
theorem fp_37_0:fplace 37 0=some (0,2):=by kernel_rfl
theorem fp_37_1:fplace 37 1=some (2,1):=by kernel_rfl
theorem el_32:elemOf NC.P 32=some 37:=by kernel_rfl
theorem by_37:bytesOf NC.P 37=some 24:=by kernel_rfl
theorem el_117:elemOf NC.P 117=some 39:=by kernel_rfl
theorem sz_39:szOf NC.P 39=some 1:=by kernel_rfl
theorem ze_39:zeroOf NC.P 39=some (.int .i64 0):=by kernel_rfl
theorem un_117:NC.P.underlying 117=some (.slice 39):=by kernel_rfl
theorem sz_29:szOf NC.P 29=some 1:=by kernel_rfl
theorem ag_29:aggOf NC.P 29=some false:=by kernel_rfl
theorem un_29:NC.P.underlying 29=some (.slice 86):=by kernel_rfl
theorem un_76:NC.P.underlying 76=some (.slice 43):=by kernel_rfl
theorem un_4:NC.P.underlying 4=some (.bool):=by kernel_rfl
theorem sz_86:szOf NC.P 86=some 6:=by kernel_rfl
theorem ag_61:aggOf NC.P 61=some true:=by kernel_rfl
theorem ag_86:aggOf NC.P 86=some true:=by kernel_rfl
theorem ze_86:zeroOf NC.P 86=some (.agg [.int .i64 0,.bool false,.str [],.int .i64 0,.int .i64 0,.int .i64 0]):=by kernel_rfl
theorem sz_28:szOf NC.P 28=some 1:=by kernel_rfl
theorem ag_28:aggOf NC.P 28=some false:=by kernel_rfl
theorem ze_90:zeroOf NC.P 90=some (.agg [.int .i64 0,.bool false,.str [],.int .i64 0,.int .i64 0,.int .i64 0,.bool false]):=by kernel_rfl
theorem bs_90 (parts:List (Nat × AV)):abuild NC.P 90 parts=match afill (fun i=>fplace 90 i) [.int .i64 0,.bool false,.str [],.int .i64 0,.int .i64 0,.int .i64 0,.bool false] parts with
 | some cs=>some (.agg cs)
 | none=>none:=by kernel_rfl
theorem fp_90_0:fplace 90 0=some (0,6):=by kernel_rfl
theorem fp_90_1:fplace 90 1=some (6,1):=by kernel_rfl
theorem sz_4:szOf NC.P 4=some 1:=by kernel_rfl
theorem ag_4:aggOf NC.P 4=some false:=by kernel_rfl
theorem sz_91:szOf NC.P 91=some 1:=by kernel_rfl
theorem ag_91:aggOf NC.P 91=some false:=by kernel_rfl
theorem by_3:bytesOf NC.P 3=some 8:=by kernel_rfl
theorem by_61:bytesOf NC.P 61=some 32:=by kernel_rfl
theorem un_98:NC.P.underlying 98=some (.slice 97):=by kernel_rfl
theorem un_39:NC.P.underlying 39=some (.int .i64):=by kernel_rfl
theorem ag_39:aggOf NC.P 39=some false:=by kernel_rfl
theorem bs_86 (parts:List (Nat × AV)):abuild NC.P 86 parts=match afill (fun i=>fplace 86 i) [.int .i64 0,.bool false,.str [],.int .i64 0,.int .i64 0,.int .i64 0] parts with
 | some cs=>some (.agg cs)
 | none=>none:=by kernel_rfl
theorem fp_86_0:fplace 86 0=some (0,1):=by kernel_rfl
theorem fp_86_1:fplace 86 1=some (1,1):=by kernel_rfl
theorem fp_86_2:fplace 86 2=some (2,4):=by kernel_rfl
theorem el_29:elemOf NC.P 29=some 86:=by kernel_rfl
theorem by_86:bytesOf NC.P 86=some 56:=by kernel_rfl
theorem un_123:NC.P.underlying 123=some (.map 9 4):=by kernel_rfl
theorem ze_4:zeroOf NC.P 4=some (.bool false):=by kernel_rfl
theorem ze_106:zeroOf NC.P 106=some (.agg [.ps .nil [],.ps .nil [],.int .i64 0,.ps .nil [],.ps .nil [],.ps .nil [],.ps .nil [],.ps .nil []]):=by kernel_rfl
theorem bs_106 (parts:List (Nat × AV)):abuild NC.P 106 parts=match afill (fun i=>fplace 106 i) [.ps .nil [],.ps .nil [],.int .i64 0,.ps .nil [],.ps .nil [],.ps .nil [],.ps .nil [],.ps .nil []] parts with
 | some cs=>some (.agg cs)
 | none=>none:=by kernel_rfl
theorem fp_106_0:fplace 106 0=some (0,1):=by kernel_rfl
theorem fp_106_1:fplace 106 1=some (1,1):=by kernel_rfl
theorem fp_106_2:fplace 106 2=some (2,6):=by kernel_rfl
theorem sz_97:szOf NC.P 97=some 7:=by kernel_rfl
theorem ag_97:aggOf NC.P 97=some true:=by kernel_rfl
theorem ze_97:zeroOf NC.P 97=some (.agg [.str [],.str [],.int .i64 0,.int .i64 0,.int .i64 0,.bool false,.bool false]):=by kernel_rfl
theorem by_9:bytesOf NC.P 9=some 16:=by kernel_rfl
theorem sz_98:szOf NC.P 98=some 1:=by kernel_rfl
theorem ag_98:aggOf NC.P 98=some false:=by kernel_rfl
theorem sz_101:szOf NC.P 101=some 1:=by kernel_rfl
theorem ag_101:aggOf NC.P 101=some false:=by kernel_rfl
theorem un_101:NC.P.underlying 101=some (.slice 141):=by kernel_rfl
theorem sz_141:szOf NC.P 141=some 10:=by kernel_rfl
theorem ag_141:aggOf NC.P 141=some true:=by kernel_rfl
theorem ze_141:zeroOf NC.P 141=some (.agg [.str [],.str [],.int .i64 0,.int .i64 0,.bool false,.bool false,.bool false,.int .i64 0,.int .i64 0,.int .i64 0]):=by kernel_rfl
theorem un_151:NC.P.underlying 151=some (.map 9 149):=by kernel_rfl
theorem ze_149:zeroOf NC.P 149=some (.agg [.str [],.int .i64 0,.nilf,.nilf]):=by kernel_rfl
theorem sz_149:szOf NC.P 149=some 4:=by kernel_rfl
theorem sz_51:szOf NC.P 51=some 1:=by kernel_rfl
theorem ag_51:aggOf NC.P 51=some false:=by kernel_rfl
theorem ag_149:aggOf NC.P 149=some true:=by kernel_rfl
theorem sz_146:szOf NC.P 146=some 1:=by kernel_rfl
theorem ag_146:aggOf NC.P 146=some false:=by kernel_rfl
theorem el_76:elemOf NC.P 76=some 43:=by kernel_rfl
theorem by_43:bytesOf NC.P 43=some 40:=by kernel_rfl
theorem by_39:bytesOf NC.P 39=some 8:=by kernel_rfl
theorem el_44:elemOf NC.P 44=some 43:=by kernel_rfl
theorem sz_104:szOf NC.P 104=some 6:=by kernel_rfl
theorem el_98:elemOf NC.P 98=some 97:=by kernel_rfl
theorem by_97:bytesOf NC.P 97=some 64:=by kernel_rfl
theorem sz_99:szOf NC.P 99=some 1:=by kernel_rfl
theorem ag_99:aggOf NC.P 99=some false:=by kernel_rfl
theorem un_99:NC.P.underlying 99=some (.slice 137):=by kernel_rfl
theorem sz_100:szOf NC.P 100=some 1:=by kernel_rfl
theorem ag_100:aggOf NC.P 100=some false:=by kernel_rfl
theorem un_100:NC.P.underlying 100=some (.slice 165):=by kernel_rfl
theorem sz_102:szOf NC.P 102=some 1:=by kernel_rfl
theorem ag_102:aggOf NC.P 102=some false:=by kernel_rfl
theorem un_102:NC.P.underlying 102=some (.slice 171):=by kernel_rfl
theorem sz_137:szOf NC.P 137=some 2:=by kernel_rfl
theorem un_21:NC.P.underlying 21=some (.int .i32):=by kernel_rfl
theorem bs_149 (parts:List (Nat × AV)):abuild NC.P 149 parts=match afill (fun i=>fplace 149 i) [.str [],.int .i64 0,.nilf,.nilf] parts with
 | some cs=>some (.agg cs)
 | none=>none:=by kernel_rfl
theorem fp_149_0:fplace 149 0=some (0,1):=by kernel_rfl
theorem fp_149_1:fplace 149 1=some (1,1):=by kernel_rfl
theorem fp_149_2:fplace 149 2=some (2,1):=by kernel_rfl
theorem fp_149_3:fplace 149 3=some (3,1):=by kernel_rfl
theorem ze_104:zeroOf NC.P 104=some (.agg [.int .i64 0,.ps .nil [],.ps .nil [],.ps .nil [],.ps .nil [],.ps .nil []]):=by kernel_rfl
theorem ag_104:aggOf NC.P 104=some true:=by kernel_rfl
theorem ag_137:aggOf NC.P 137=some true:=by kernel_rfl
theorem ze_137:zeroOf NC.P 137=some (.agg [.str [],.int .i64 0]):=by kernel_rfl
theorem sz_165:szOf NC.P 165=some 3:=by kernel_rfl
theorem ag_165:aggOf NC.P 165=some true:=by kernel_rfl
theorem ze_165:zeroOf NC.P 165=some (.agg [.str [],.str [],.int .i64 0]):=by kernel_rfl
theorem sz_171:szOf NC.P 171=some 2:=by kernel_rfl
theorem ag_171:aggOf NC.P 171=some true:=by kernel_rfl
theorem ze_171:zeroOf NC.P 171=some (.agg [.str [],.str []]):=by kernel_rfl
theorem sz_110:szOf NC.P 110=some 1:=by kernel_rfl
theorem ag_110:aggOf NC.P 110=some false:=by kernel_rfl
theorem bs_137 (parts:List (Nat × AV)):abuild NC.P 137 parts=match afill (fun i=>fplace 137 i) [.str [],.int .i64 0] parts with
 | some cs=>some (.agg cs)
 | none=>none:=by kernel_rfl
theorem fp_137_0:fplace 137 0=some (0,1):=by kernel_rfl
theorem fp_137_1:fplace 137 1=some (1,1):=by kernel_rfl
theorem el_99:elemOf NC.P 99=some 137:=by kernel_rfl
theorem by_137:bytesOf NC.P 137=some 24:=by kernel_rfl
theorem bs_97 (parts:List (Nat × AV)):abuild NC.P 97 parts=match afill (fun i=>fplace 97 i) [.str [],.str [],.int .i64 0,.int .i64 0,.int .i64 0,.bool false,.bool false] parts with
 | some cs=>some (.agg cs)
 | none=>none:=by kernel_rfl
theorem fp_97_0:fplace 97 0=some (0,1):=by kernel_rfl
theorem fp_97_1:fplace 97 1=some (1,1):=by kernel_rfl
theorem fp_97_2:fplace 97 2=some (2,2):=by kernel_rfl
theorem fp_97_3:fplace 97 3=some (4,1):=by kernel_rfl
theorem fp_97_4:fplace 97 4=some (5,1):=by kernel_rfl
theorem fp_97_5:fplace 97 5=some (6,1):=by kernel_rfl
theorem bs_165 (parts:List (Nat × AV)):abuild NC.P 165 parts=match afill (fun i=>fplace 165 i) [.str [],.str [],.int .i64 0] parts with
 | some cs=>some (.agg cs)
 | none=>none:=by kernel_rfl
theorem fp_165_0:fplace 165 0=some (0,1):=by kernel_rfl
theorem fp_165_1:fplace 165 1=some (1,1):=by kernel_rfl
theorem fp_165_2:fplace 165 2=some (2,1):=by kernel_rfl
theorem el_100:elemOf NC.P 100=some 165:=by kernel_rfl
theorem by_165:bytesOf NC.P 165=some 40:=by kernel_rfl
theorem bs_141 (parts:List (Nat × AV)):abuild NC.P 141 parts=match afill (fun i=>fplace 141 i) [.str [],.str [],.int .i64 0,.int .i64 0,.bool false,.bool false,.bool false,.int .i64 0,.int .i64 0,.int .i64 0] parts with
 | some cs=>some (.agg cs)
 | none=>none:=by kernel_rfl
theorem fp_141_0:fplace 141 0=some (0,1):=by kernel_rfl
theorem fp_141_1:fplace 141 1=some (1,1):=by kernel_rfl
theorem fp_141_2:fplace 141 2=some (2,2):=by kernel_rfl
theorem fp_141_3:fplace 141 3=some (4,1):=by kernel_rfl
theorem fp_141_4:fplace 141 4=some (5,1):=by kernel_rfl
theorem fp_141_5:fplace 141 5=some (6,1):=by kernel_rfl
theorem fp_141_6:fplace 141 6=some (7,1):=by kernel_rfl
theorem fp_141_7:fplace 141 7=some (8,1):=by kernel_rfl
theorem fp_141_8:fplace 141 8=some (9,1):=by kernel_rfl
theorem el_101:elemOf NC.P 101=some 141:=by kernel_rfl
theorem by_141:bytesOf NC.P 141=some 80:=by kernel_rfl
theorem sz_57:szOf NC.P 57=some 2:=by kernel_rfl
theorem bs_171 (parts:List (Nat × AV)):abuild NC.P 171 parts=match afill (fun i=>fplace 171 i) [.str [],.str []] parts with
 | some cs=>some (.agg cs)
 | none=>none:=by kernel_rfl
theorem fp_171_0:fplace 171 0=some (0,1):=by kernel_rfl
theorem fp_171_1:fplace 171 1=some (1,1):=by kernel_rfl
theorem el_102:elemOf NC.P 102=some 171:=by kernel_rfl
theorem by_171:bytesOf NC.P 171=some 32:=by kernel_rfl
theorem sz_184:szOf NC.P 184=some 1:=by kernel_rfl
theorem ag_184:aggOf NC.P 184=some false:=by kernel_rfl
theorem sz_186:szOf NC.P 186=some 1:=by kernel_rfl
theorem ag_186:aggOf NC.P 186=some false:=by kernel_rfl
theorem sz_147:szOf NC.P 147=some 1:=by kernel_rfl
theorem ag_147:aggOf NC.P 147=some false:=by kernel_rfl
theorem fa_37_0:faOff 37 0=some 0:=by kernel_rfl
theorem fa_37_1:faOff 37 1=some 2:=by kernel_rfl
theorem fa_35_0:faOff 35 0=some 0:=by kernel_rfl
theorem fa_35_1:faOff 35 1=some 1:=by kernel_rfl
theorem fa_31_1:faOff 31 1=some 1:=by kernel_rfl
theorem fa_46_0:faOff 46 0=some 0:=by kernel_rfl
theorem fa_46_1:faOff 46 1=some 1:=by kernel_rfl
theorem fa_43_0:faOff 43 0=some 0:=by kernel_rfl
theorem fa_31_0:faOff 31 0=some 0:=by kernel_rfl
theorem fa_61_0:faOff 61 0=some 0:=by kernel_rfl
theorem fa_86_0:faOff 86 0=some 0:=by kernel_rfl
theorem fa_61_1:faOff 61 1=some 1:=by kernel_rfl
theorem fa_106_2:faOff 106 2=some 2:=by kernel_rfl
theorem fa_86_1:faOff 86 1=some 1:=by kernel_rfl
theorem fa_43_1:faOff 43 1=some 1:=by kernel_rfl
theorem fa_43_2:faOff 43 2=some 3:=by kernel_rfl
theorem fa_86_2:faOff 86 2=some 2:=by kernel_rfl
theorem fa_90_1:faOff 90 1=some 6:=by kernel_rfl
theorem fa_90_0:faOff 90 0=some 0:=by kernel_rfl
theorem fa_104_2:faOff 104 2=some 2:=by kernel_rfl
theorem fa_97_0:faOff 97 0=some 0:=by kernel_rfl
theorem fa_137_1:faOff 137 1=some 1:=by kernel_rfl
theorem fa_97_1:faOff 97 1=some 1:=by kernel_rfl
theorem fa_97_5:faOff 97 5=some 6:=by kernel_rfl
theorem fa_97_4:faOff 97 4=some 5:=by kernel_rfl
theorem fa_97_3:faOff 97 3=some 4:=by kernel_rfl
theorem fa_104_4:faOff 104 4=some 4:=by kernel_rfl
theorem fa_141_1:faOff 141 1=some 1:=by kernel_rfl
theorem fa_141_3:faOff 141 3=some 4:=by kernel_rfl
theorem fa_141_8:faOff 141 8=some 9:=by kernel_rfl
theorem fa_70_1:faOff 70 1=some 1:=by kernel_rfl
theorem fa_70_0:faOff 70 0=some 0:=by kernel_rfl
theorem fa_70_2:faOff 70 2=some 2:=by kernel_rfl
theorem fa_149_0:faOff 149 0=some 0:=by kernel_rfl
theorem fa_70_3:faOff 70 3=some 3:=by kernel_rfl
theorem fa_149_1:faOff 149 1=some 1:=by kernel_rfl
theorem fa_70_4:faOff 70 4=some 4:=by kernel_rfl
theorem fa_106_0:faOff 106 0=some 0:=by kernel_rfl
theorem fa_106_1:faOff 106 1=some 1:=by kernel_rfl
theorem fa_104_0:faOff 104 0=some 0:=by kernel_rfl
theorem fa_149_2:faOff 149 2=some 2:=by kernel_rfl
theorem fa_149_3:faOff 149 3=some 3:=by kernel_rfl
theorem fa_104_1:faOff 104 1=some 1:=by kernel_rfl
theorem fa_104_3:faOff 104 3=some 3:=by kernel_rfl
theorem fa_104_5:faOff 104 5=some 5:=by kernel_rfl
theorem fa_137_0:faOff 137 0=some 0:=by kernel_rfl
theorem fa_165_0:faOff 165 0=some 0:=by kernel_rfl
theorem fa_141_0:faOff 141 0=some 0:=by kernel_rfl
theorem fa_171_0:faOff 171 0=some 0:=by kernel_rfl
theorem fa_97_2:faOff 97 2=some 2:=by kernel_rfl
theorem fa_141_2:faOff 141 2=some 2:=by kernel_rfl
theorem fa_141_4:faOff 141 4=some 5:=by kernel_rfl
theorem fa_141_7:faOff 141 7=some 8:=by kernel_rfl
theorem fa_141_5:faOff 141 5=some 6:=by kernel_rfl
theorem fa_141_6:faOff 141 6=some 7:=by kernel_rfl
theorem fa_165_1:faOff 165 1=some 1:=by kernel_rfl
theorem fa_171_1:faOff 171 1=some 1:=by kernel_rfl
theorem pl_4_34 (P:FuncId→Option (List AV→Option AV)):(NC.withPrims P).plans 4 34=q4_34:=by kernel_rfl
theorem pl_4_53 (P:FuncId→Option (List AV→Option AV)):(NC.withPrims P).plans 4 53=q4_53:=by kernel_rfl
theorem pl_6_2 (P:FuncId→Option (List AV→Option AV)):(NC.withPrims P).plans 6 2=q6_2:=by kernel_rfl
theorem pl_6_4 (P:FuncId→Option (List AV→Option AV)):(NC.withPrims P).plans 6 4=q6_4:=by kernel_rfl
theorem pl_9_1 (P:FuncId→Option (List AV→Option AV)):(NC.withPrims P).plans 9 1=q9_1:=by kernel_rfl
theorem pl_9_4 (P:FuncId→Option (List AV→Option AV)):(NC.withPrims P).plans 9 4=q9_4:=by kernel_rfl
theorem pl_10_1 (P:FuncId→Option (List AV→Option AV)):(NC.withPrims P).plans 10 1=q10_1:=by kernel_rfl
theorem pl_10_4 (P:FuncId→Option (List AV→Option AV)):(NC.withPrims P).plans 10 4=q10_4:=by kernel_rfl
theorem pl_10_6 (P:FuncId→Option (List AV→Option AV)):(NC.withPrims P).plans 10 6=q10_6:=by kernel_rfl
theorem pl_10_13 (P:FuncId→Option (List AV→Option AV)):(NC.withPrims P).plans 10 13=q10_13:=by kernel_rfl
theorem pl_10_18 (P:FuncId→Option (List AV→Option AV)):(NC.withPrims P).plans 10 18=q10_18:=by kernel_rfl
theorem pl_21_8 (P:FuncId→Option (List AV→Option AV)):(NC.withPrims P).plans 21 8=q21_8:=by kernel_rfl
theorem pl_22_1 (P:FuncId→Option (List AV→Option AV)):(NC.withPrims P).plans 22 1=q22_1:=by kernel_rfl
theorem pl_25_6 (P:FuncId→Option (List AV→Option AV)):(NC.withPrims P).plans 25 6=q25_6:=by kernel_rfl
theorem pl_26_1 (P:FuncId→Option (List AV→Option AV)):(NC.withPrims P).plans 26 1=q26_1:=by kernel_rfl
theorem pl_26_8 (P:FuncId→Option (List AV→Option AV)):(NC.withPrims P).plans 26 8=q26_8:=by kernel_rfl
theorem pl_28_6 (P:FuncId→Option (List AV→Option AV)):(NC.withPrims P).plans 28 6=q28_6:=by kernel_rfl
theorem pl_38_4 (P:FuncId→Option (List AV→Option AV)):(NC.withPrims P).plans 38 4=q38_4:=by kernel_rfl
theorem pl_45_1 (P:FuncId→Option (List AV→Option AV)):(NC.withPrims P).plans 45 1=q45_1:=by kernel_rfl
theorem pl_45_2 (P:FuncId→Option (List AV→Option AV)):(NC.withPrims P).plans 45 2=q45_2:=by kernel_rfl
theorem pl_46_1 (P:FuncId→Option (List AV→Option AV)):(NC.withPrims P).plans 46 1=q46_1:=by kernel_rfl
theorem pl_46_6 (P:FuncId→Option (List AV→Option AV)):(NC.withPrims P).plans 46 6=q46_6:=by kernel_rfl
theorem pl_46_8 (P:FuncId→Option (List AV→Option AV)):(NC.withPrims P).plans 46 8=q46_8:=by kernel_rfl
theorem pl_46_10 (P:FuncId→Option (List AV→Option AV)):(NC.withPrims P).plans 46 10=q46_10:=by kernel_rfl
theorem pl_46_11 (P:FuncId→Option (List AV→Option AV)):(NC.withPrims P).plans 46 11=q46_11:=by kernel_rfl
theorem pl_46_14 (P:FuncId→Option (List AV→Option AV)):(NC.withPrims P).plans 46 14=q46_14:=by kernel_rfl
theorem pl_47_7 (P:FuncId→Option (List AV→Option AV)):(NC.withPrims P).plans 47 7=q47_7:=by kernel_rfl
theorem pl_49_2 (P:FuncId→Option (List AV→Option AV)):(NC.withPrims P).plans 49 2=q49_2:=by kernel_rfl
theorem pl_49_5 (P:FuncId→Option (List AV→Option AV)):(NC.withPrims P).plans 49 5=q49_5:=by kernel_rfl
theorem pl_60_2 (P:FuncId→Option (List AV→Option AV)):(NC.withPrims P).plans 60 2=q60_2:=by kernel_rfl
theorem pl_60_4 (P:FuncId→Option (List AV→Option AV)):(NC.withPrims P).plans 60 4=q60_4:=by kernel_rfl
theorem pl_60_6 (P:FuncId→Option (List AV→Option AV)):(NC.withPrims P).plans 60 6=q60_6:=by kernel_rfl
theorem pl_60_7 (P:FuncId→Option (List AV→Option AV)):(NC.withPrims P).plans 60 7=q60_7:=by kernel_rfl
theorem pl_65_1 (P:FuncId→Option (List AV→Option AV)):(NC.withPrims P).plans 65 1=q65_1:=by kernel_rfl
theorem pl_76_9 (P:FuncId→Option (List AV→Option AV)):(NC.withPrims P).plans 76 9=q76_9:=by kernel_rfl
theorem pl_81_1 (P:FuncId→Option (List AV→Option AV)):(NC.withPrims P).plans 81 1=q81_1:=by kernel_rfl
theorem pl_82_5 (P:FuncId→Option (List AV→Option AV)):(NC.withPrims P).plans 82 5=q82_5:=by kernel_rfl
theorem pl_97_1 (P:FuncId→Option (List AV→Option AV)):(NC.withPrims P).plans 97 1=q97_1:=by kernel_rfl
theorem pl_98_1 (P:FuncId→Option (List AV→Option AV)):(NC.withPrims P).plans 98 1=q98_1:=by kernel_rfl
theorem pl_99_2 (P:FuncId→Option (List AV→Option AV)):(NC.withPrims P).plans 99 2=q99_2:=by kernel_rfl
theorem pl_100_1 (P:FuncId→Option (List AV→Option AV)):(NC.withPrims P).plans 100 1=q100_1:=by kernel_rfl
theorem pl_100_2 (P:FuncId→Option (List AV→Option AV)):(NC.withPrims P).plans 100 2=q100_2:=by kernel_rfl
theorem pl_101_2 (P:FuncId→Option (List AV→Option AV)):(NC.withPrims P).plans 101 2=q101_2:=by kernel_rfl
theorem pl_102_2 (P:FuncId→Option (List AV→Option AV)):(NC.withPrims P).plans 102 2=q102_2:=by kernel_rfl
theorem pl_103_1 (P:FuncId→Option (List AV→Option AV)):(NC.withPrims P).plans 103 1=q103_1:=by kernel_rfl
theorem pl_105_1 (P:FuncId→Option (List AV→Option AV)):(NC.withPrims P).plans 105 1=q105_1:=by kernel_rfl
theorem pl_105_2 (P:FuncId→Option (List AV→Option AV)):(NC.withPrims P).plans 105 2=q105_2:=by kernel_rfl
theorem pl_105_3 (P:FuncId→Option (List AV→Option AV)):(NC.withPrims P).plans 105 3=q105_3:=by kernel_rfl
theorem pl_107_1 (P:FuncId→Option (List AV→Option AV)):(NC.withPrims P).plans 107 1=q107_1:=by kernel_rfl
theorem pl_107_2 (P:FuncId→Option (List AV→Option AV)):(NC.withPrims P).plans 107 2=q107_2:=by kernel_rfl
theorem pl_108_1 (P:FuncId→Option (List AV→Option AV)):(NC.withPrims P).plans 108 1=q108_1:=by kernel_rfl
theorem pl_112_1 (P:FuncId→Option (List AV→Option AV)):(NC.withPrims P).plans 112 1=q112_1:=by kernel_rfl
theorem pl_113_4 (P:FuncId→Option (List AV→Option AV)):(NC.withPrims P).plans 113 4=q113_4:=by kernel_rfl
theorem pl_114_2 (P:FuncId→Option (List AV→Option AV)):(NC.withPrims P).plans 114 2=q114_2:=by kernel_rfl
theorem pl_119_1 (P:FuncId→Option (List AV→Option AV)):(NC.withPrims P).plans 119 1=q119_1:=by kernel_rfl
theorem pl_122_1 (P:FuncId→Option (List AV→Option AV)):(NC.withPrims P).plans 122 1=q122_1:=by kernel_rfl
theorem pl_123_1 (P:FuncId→Option (List AV→Option AV)):(NC.withPrims P).plans 123 1=q123_1:=by kernel_rfl
theorem pl_126_1 (P:FuncId→Option (List AV→Option AV)):(NC.withPrims P).plans 126 1=q126_1:=by kernel_rfl
theorem pl_127_1 (P:FuncId→Option (List AV→Option AV)):(NC.withPrims P).plans 127 1=q127_1:=by kernel_rfl
theorem pl_128_1 (P:FuncId→Option (List AV→Option AV)):(NC.withPrims P).plans 128 1=q128_1:=by kernel_rfl
theorem pl_129_1 (P:FuncId→Option (List AV→Option AV)):(NC.withPrims P).plans 129 1=q129_1:=by kernel_rfl
theorem pl_130_1 (P:FuncId→Option (List AV→Option AV)):(NC.withPrims P).plans 130 1=q130_1:=by kernel_rfl
theorem pl_131_1 (P:FuncId→Option (List AV→Option AV)):(NC.withPrims P).plans 131 1=q131_1:=by kernel_rfl
theorem pl_133_1 (P:FuncId→Option (List AV→Option AV)):(NC.withPrims P).plans 133 1=q133_1:=by kernel_rfl
theorem pl_134_1 (P:FuncId→Option (List AV→Option AV)):(NC.withPrims P).plans 134 1=q134_1:=by kernel_rfl
theorem pl_135_1 (P:FuncId→Option (List AV→Option AV)):(NC.withPrims P).plans 135 1=q135_1:=by kernel_rfl
theorem pl_138_2 (P:FuncId→Option (List AV→Option AV)):(NC.withPrims P).plans 138 2=q138_2:=by kernel_rfl
theorem pl_139_1 (P:FuncId→Option (List AV→Option AV)):(NC.withPrims P).plans 139 1=q139_1:=by kernel_rfl
theorem pl_146_1 (P:FuncId→Option (List AV→Option AV)):(NC.withPrims P).plans 146 1=q146_1:=by kernel_rfl
theorem rf_6 (P:FuncId→Option (List AV→Option AV)) (t:TypeId):(NC.withPrims P).refApp 6 t=false:=Eq.trans (rfP (by decide +kernel)) rfl
theorem rf_7 (P:FuncId→Option (List AV→Option AV)) (t:TypeId):(NC.withPrims P).refApp 7 t=false:=Eq.trans (rfP (by decide +kernel)) rfl
theorem rf_14 (P:FuncId→Option (List AV→Option AV)) (t:TypeId):(NC.withPrims P).refApp 14 t=false:=Eq.trans (rfP (by decide +kernel)) rfl
theorem rf_25_29 (P:FuncId→Option (List AV→Option AV)):(NC.withPrims P).refApp 25 29=true:=Eq.trans (by kernel_rfl) rfl
theorem rf_34 (P:FuncId→Option (List AV→Option AV)) (t:TypeId):(NC.withPrims P).refApp 34 t=false:=Eq.trans (rfP (by decide +kernel)) rfl
theorem rf_49_76 (P:FuncId→Option (List AV→Option AV)):(NC.withPrims P).refApp 49 76=true:=Eq.trans (by kernel_rfl) rfl
theorem rf_53 (P:FuncId→Option (List AV→Option AV)) (t:TypeId):(NC.withPrims P).refApp 53 t=false:=Eq.trans (rfP (by decide +kernel)) rfl
theorem rf_55 (P:FuncId→Option (List AV→Option AV)) (t:TypeId):(NC.withPrims P).refApp 55 t=false:=Eq.trans (rfP (by decide +kernel)) rfl
theorem rf_57 (P:FuncId→Option (List AV→Option AV)) (t:TypeId):(NC.withPrims P).refApp 57 t=false:=Eq.trans (rfP (by decide +kernel)) rfl
theorem rf_58 (P:FuncId→Option (List AV→Option AV)) (t:TypeId):(NC.withPrims P).refApp 58 t=false:=Eq.trans (rfP (by decide +kernel)) rfl
theorem rf_60_25 (P:FuncId→Option (List AV→Option AV)):(NC.withPrims P).refApp 60 25=true:=Eq.trans (by kernel_rfl) rfl
theorem rf_61 (P:FuncId→Option (List AV→Option AV)) (t:TypeId):(NC.withPrims P).refApp 61 t=false:=Eq.trans (rfP (by decide +kernel)) rfl
theorem rf_72 (P:FuncId→Option (List AV→Option AV)) (t:TypeId):(NC.withPrims P).refApp 72 t=false:=Eq.trans (rfP (by decide +kernel)) rfl
theorem rf_74 (P:FuncId→Option (List AV→Option AV)) (t:TypeId):(NC.withPrims P).refApp 74 t=false:=Eq.trans (rfP (by decide +kernel)) rfl
theorem rf_77_76 (P:FuncId→Option (List AV→Option AV)):(NC.withPrims P).refApp 77 76=true:=Eq.trans (by kernel_rfl) rfl
theorem rf_84 (P:FuncId→Option (List AV→Option AV)) (t:TypeId):(NC.withPrims P).refApp 84 t=false:=Eq.trans (rfP (by decide +kernel)) rfl
theorem rf_87 (P:FuncId→Option (List AV→Option AV)) (t:TypeId):(NC.withPrims P).refApp 87 t=false:=Eq.trans (rfP (by decide +kernel)) rfl
theorem rf_89 (P:FuncId→Option (List AV→Option AV)) (t:TypeId):(NC.withPrims P).refApp 89 t=false:=Eq.trans (rfP (by decide +kernel)) rfl
theorem rf_91 (P:FuncId→Option (List AV→Option AV)) (t:TypeId):(NC.withPrims P).refApp 91 t=false:=Eq.trans (rfP (by decide +kernel)) rfl
theorem rf_98 (P:FuncId→Option (List AV→Option AV)) (t:TypeId):(NC.withPrims P).refApp 98 t=false:=Eq.trans (rfP (by decide +kernel)) rfl
theorem rf_101_98 (P:FuncId→Option (List AV→Option AV)):(NC.withPrims P).refApp 101 98=true:=Eq.trans (by kernel_rfl) rfl
theorem rf_108 (P:FuncId→Option (List AV→Option AV)) (t:TypeId):(NC.withPrims P).refApp 108 t=false:=Eq.trans (rfP (by decide +kernel)) rfl
theorem rf_111 (P:FuncId→Option (List AV→Option AV)) (t:TypeId):(NC.withPrims P).refApp 111 t=false:=Eq.trans (rfP (by decide +kernel)) rfl
theorem rf_114_101 (P:FuncId→Option (List AV→Option AV)):(NC.withPrims P).refApp 114 101=true:=Eq.trans (by kernel_rfl) rfl
theorem rf_123 (P:FuncId→Option (List AV→Option AV)) (t:TypeId):(NC.withPrims P).refApp 123 t=false:=Eq.trans (rfP (by decide +kernel)) rfl
theorem rf_125 (P:FuncId→Option (List AV→Option AV)) (t:TypeId):(NC.withPrims P).refApp 125 t=false:=Eq.trans (rfP (by decide +kernel)) rfl
theorem rf_136 (P:FuncId→Option (List AV→Option AV)) (t:TypeId):(NC.withPrims P).refApp 136 t=false:=Eq.trans (rfP (by decide +kernel)) rfl
theorem ks_0 {C:Cfg} {T:TT AV}:evalO C T (.const (.string { data:=#[116] }))=some (.str [116]):=rfl
theorem ks_1 {C:Cfg} {T:TT AV}:evalO C T (.const (.string { data:=#[117,112] }))=some (.str [117,112]):=rfl
theorem ks_2 {C:Cfg} {T:TT AV}:evalO C T (.const (.string { data:=#[45] }))=some (.str [45]):=rfl
theorem ks_3 {C:Cfg} {T:TT AV}:evalO C T (.const (.string { data:=#[48,49,50,51,52,53,54,55,56,57] }))=some (.str [48,49,50,51,52,53,54,55,56,57]):=rfl
theorem ks_4 {C:Cfg} {T:TT AV}:evalO C T (.const (.string { data:=#[84] }))=some (.str [84]):=rfl
theorem ks_5 {C:Cfg} {T:TT AV}:evalO C T (.const (.string { data:=#[116,114,97,99,107] }))=some (.str [116,114,97,99,107]):=rfl
theorem ks_6 {C:Cfg} {T:TT AV}:evalO C T (.const (.string { data:=#[70,116] }))=some (.str [70,116]):=rfl
theorem ks_7 {C:Cfg} {T:TT AV}:evalO C T (.const (.string { data:=#[102,97,117,108,116] }))=some (.str [102,97,117,108,116]):=rfl
theorem ks_8 {C:Cfg} {T:TT AV}:evalO C T (.const (.string { data:=#[102] }))=some (.str [102]):=rfl
theorem ks_9 {C:Cfg} {T:TT AV}:evalO C T (.const (.string { data:=#[97,110,115,119,101,114] }))=some (.str [97,110,115,119,101,114]):=rfl
theorem ks_10 {C:Cfg} {T:TT AV}:evalO C T (.const (.string { data:=#[102,112] }))=some (.str [102,112]):=rfl
theorem ks_11 {C:Cfg} {T:TT AV}:evalO C T (.const (.string { data:=#[114,101,112,97,105,114] }))=some (.str [114,101,112,97,105,114]):=rfl
theorem ks_12 {C:Cfg} {T:TT AV}:evalO C T (.const (.string { data:=#[82,116] }))=some (.str [82,116]):=rfl
theorem ks_13 {C:Cfg} {T:TT AV}:evalO C T (.const (.string { data:=#[101,110,116,101,114] }))=some (.str [101,110,116,101,114]):=rfl
theorem ks_14 {C:Cfg} {T:TT AV}:evalO C T (.const (.string { data:=#[114] }))=some (.str [114]):=rfl
theorem ks_15 {C:Cfg} {T:TT AV}:evalO C T (.const (.string { data:=#[108,101,97,118,101] }))=some (.str [108,101,97,118,101]):=rfl
theorem ks_16 {C:Cfg} {T:TT AV}:evalO C T (.const (.string { data:=#[80,116] }))=some (.str [80,116]):=rfl
theorem ks_17 {C:Cfg} {T:TT AV}:evalO C T (.const (.string { data:=#[116,97,107,101] }))=some (.str [116,97,107,101]):=rfl
theorem ks_18 {C:Cfg} {T:TT AV}:evalO C T (.const (.string { data:=#[112,114,111,116,101,99,116] }))=some (.str [112,114,111,116,101,99,116]):=rfl
theorem ks_19 {C:Cfg} {T:TT AV}:evalO C T (.const (.string { data:=#[99,108,101,97,114] }))=some (.str [99,108,101,97,114]):=rfl
theorem ks_20 {C:Cfg} {T:TT AV}:evalO C T (.const (.string { data:=#[77,112] }))=some (.str [77,112]):=rfl
theorem ks_21 {C:Cfg} {T:TT AV}:evalO C T (.const (.string { data:=#[105,110] }))=some (.str [105,110]):=rfl
theorem ks_22 {C:Cfg} {T:TT AV}:evalO C T (.const (.string { data:=#[109] }))=some (.str [109]):=rfl
theorem ks_23 {C:Cfg} {T:TT AV}:evalO C T (.const (.string { data:=#[111,117,116] }))=some (.str [111,117,116]):=rfl
theorem ks_24 {C:Cfg} {T:TT AV}:evalO C T (.const (.string { data:=#[111,102,102] }))=some (.str [111,102,102]):=rfl
theorem ks_25 {C:Cfg} {T:TT AV}:evalO C T (.const (.string { data:=#[111,112,101,110] }))=some (.str [111,112,101,110]):=rfl
theorem ks_26 {C:Cfg} {T:TT AV}:evalO C T (.const (.string { data:=#[99,108,111,115,101] }))=some (.str [99,108,111,115,101]):=rfl
theorem ks_27 {C:Cfg} {T:TT AV}:evalO C T (.const (.string { data:=#[114,101,116,117,114,110] }))=some (.str [114,101,116,117,114,110]):=rfl
theorem ks_28 {C:Cfg} {T:TT AV}:evalO C T (.const (.string { data:=#[112] }))=some (.str [112]):=rfl
theorem ks_29 {C:Cfg} {T:TT AV}:evalO C T (.const (.string { data:=#[114,97,105,115,101] }))=some (.str [114,97,105,115,101]):=rfl
theorem ks_30 {C:Cfg} {T:TT AV}:evalO C T (.const (.string { data:=#[117,110,100,111] }))=some (.str [117,110,100,111]):=rfl
theorem ks_31 {C:Cfg} {T:TT AV}:evalO C T (.const (.string { data:=#[115,116,97,102,102] }))=some (.str [115,116,97,102,102]):=rfl
theorem ks_32 {C:Cfg} {T:TT AV}:evalO C T (.const (.string { data:=#[109,101,97,115,117,114,101,109,101,110,116] }))=some (.str [109,101,97,115,117,114,101,109,101,110,116]):=rfl
theorem ks_33 {C:Cfg} {T:TT AV}:evalO C T (.const (.string { data:=#[112,114,111,116,101,99,116,105,111,110] }))=some (.str [112,114,111,116,101,99,116,105,111,110]):=rfl
theorem ks_34 {C:Cfg} {T:TT AV}:evalO C T (.const (.string { data:=#[] }))=some (.str []):=rfl
end Go.Sim

namespace Go.Sim
open Go
variable {C:Cfg} {g:Gh} {n:Nat} {H:Heap} {w:World} {P:FuncId→Option (List AV→Option AV)}
def frzL (lo:Nat):Heap→List AV→Option (List AV × Heap)
 | H,[]=>some ([],H)
 | H,v::r=>match afreeze lo H v with
   | some (v',H1)=>match frzL lo H1 r with
     | some (l,H2)=>some (v'::l,H2)
     | none=>none
   | none=>none
def frzA (lo:Nat) (H:Heap):AV→Option (AV × Heap)
 | .agg cs=>match frzL lo H cs with
   | some (l,H')=>some (.agg l,H')
   | none=>none
 | v=>afreeze lo H v
def frzAs (lo:Nat):Heap→List AV→Option (List AV × Heap)
 | H,[]=>some ([],H)
 | H,v::r=>match frzA lo H v with
   | some (v',H1)=>match frzAs lo H1 r with
     | some (l,H2)=>some (v'::l,H2)
     | none=>none
   | none=>none
def frzV (lo:Nat) (H:Heap):AV→Option (AV × Heap)
 | .tup vs=>match frzAs lo H vs with
   | some (l,H')=>some (.tup l,H')
   | none=>none
 | v=>frzA lo H v
theorem frzL_rel {lo:Nat}:∀ {vs:List AV} {g:Gh} {H H':Heap} {vs':List AV} {cvs:List Value},Rel C g H w→frzL lo H vs=some (vs',H')→VRels g H.n vs cvs → ∃ g',Rel C g' H' w∧Ext lo g H w g' H' w∧VRels g' H'.n vs' cvs
 | [],g,H,H',vs',cvs,hR,h,hv=>by
   simp [frzL] at h
   obtain ⟨rfl,rfl⟩:=h
   exact ⟨g,hR,.refl _ _ _ _,hv⟩
 | v::r,g,H,H',vs',cvs,hR,h,hv=>by
   obtain ⟨cv,m,rfl,h1,h2⟩:=hv.cons_left
   unfold frzL at h
   split at h
   · rename_i v' H1 hf
     split at h
     · rename_i l H2 hl
       simp at h
       obtain ⟨rfl,rfl⟩:=h
       obtain ⟨g1,r1,r2,r3⟩:=freeze_rel hR hf h1
       obtain ⟨g2,q1,q2,q3⟩:=frzL_rel r1 hl (VRels.mono h2 r2.n r2.le)
       exact ⟨g2,q1,r2.trans q2,.cons (r3.mono q2.n q2.le) q3⟩
     · cases h
   · cases h
theorem frzA_rel {lo:Nat} {v v':AV} {H':Heap} {cv:Value} (hR:Rel C g H w) (h:frzA lo H v=some (v',H')) (hv:VRel g H.n v cv):Done C lo g H w v' H' cv w:=by
 unfold frzA at h
 split at h
 · split at h
   · rename_i l H2 hl
     simp at h
     obtain ⟨rfl,rfl⟩:=h
     obtain ⟨vs,rfl,h1⟩:=hv.inv_agg
     obtain ⟨g',r1,r2,r3⟩:=frzL_rel hR hl h1
     exact ⟨g',r1,r2,.agg r3.1 r3.2⟩
   · cases h
 · exact freeze_rel hR h hv
theorem frzAs_rel {lo:Nat}:∀ {vs:List AV} {g:Gh} {H H':Heap} {vs':List AV} {cvs:List Value},Rel C g H w→frzAs lo H vs=some (vs',H')→VRels g H.n vs cvs → ∃ g',Rel C g' H' w∧Ext lo g H w g' H' w∧VRels g' H'.n vs' cvs
 | [],g,H,H',vs',cvs,hR,h,hv=>by
   simp [frzAs] at h
   obtain ⟨rfl,rfl⟩:=h
   exact ⟨g,hR,.refl _ _ _ _,hv⟩
 | v::r,g,H,H',vs',cvs,hR,h,hv=>by
   obtain ⟨cv,m,rfl,h1,h2⟩:=hv.cons_left
   unfold frzAs at h
   split at h
   · rename_i v' H1 hf
     split at h
     · rename_i l H2 hl
       simp at h
       obtain ⟨rfl,rfl⟩:=h
       obtain ⟨g1,r1,r2,r3⟩:=frzA_rel hR hf h1
       obtain ⟨g2,q1,q2,q3⟩:=frzAs_rel r1 hl (VRels.mono h2 r2.n r2.le)
       exact ⟨g2,q1,r2.trans q2,.cons (r3.mono q2.n q2.le) q3⟩
     · cases h
   · cases h
theorem frzV_rel {lo:Nat} {v v':AV} {H':Heap} {cv:Value} (hR:Rel C g H w) (h:frzV lo H v=some (v',H')) (hv:VRel g H.n v cv):Done C lo g H w v' H' cv w:=by
 unfold frzV at h
 split at h
 · split at h
   · rename_i l H2 hl
     simp at h
     obtain ⟨rfl,rfl⟩:=h
     obtain ⟨vs,rfl,h1⟩:=hv.inv_tup
     obtain ⟨g',r1,r2,r3⟩:=frzAs_rel hR hl h1
     exact ⟨g',r1,r2,.tup r3.1 r3.2⟩
   · cases h
 · exact frzA_rel hR h hv
theorem memo_frz (Sa:Sane C) {k:Nat} {f:FuncId} {args:List AV} {o:Out} {v2:AV} {H2:Heap} (h:run C k (.call 0 f args .empty)=some o) (hp:pureAll args=true) (hf:frzV 0 o.s.H o.val=some (v2,H2)) (hv:v2.strip.pure=true) (lo:Nat) (H:Heap) :
 CallOk C lo f args H v2.strip H:=by
 have hs:=run_ok Sa k _ _ h (Nat.le_refl 0)
 refine ⟨hs.1,fun g w cargs hR ha => ?_⟩
 have hR0:Rel C g .empty w:=⟨fun id hid=>by simp [Heap.empty] at hid,fun id _=>rfl,fun id hid=>by simp [Heap.empty] at hid,fun i j hi=>by simp [Heap.empty] at hi,hR.know,fun id hid=>by simp [Heap.empty] at hid,hR.glob,
  fun x cs hx=>⟨(hR.gsz x cs hx).1,fun ⟨id,hid,_⟩=>by simp [Heap.empty] at hid⟩⟩
 have hpa:∀ a ∈ args,a.pure=true:=by
  clear h hs ha
  induction args with
  | nil=>intro a ha;simp at ha
  | cons x r ih =>
    simp only [pureAll,Bool.and_eq_true] at hp
    intro a ha
    rcases List.mem_cons.1 ha with rfl | ha
    · exact hp.1
    · exact ih hp.2 a ha
 have ha0:VRels g 0 args cargs:=⟨ha.1,fun i a v h1 h2=>(ha.2 i a v h1 h2).pure (hpa a (List.mem_of_getElem? h1))⟩
 refine (hs.2 g w cargs hR0 ha0).mono fun e w' hpost => ?_
 obtain ⟨cv,rfl,g',r1,r2,r3⟩:=hpost.returned
 obtain ⟨g2,q1,q2,q3⟩:=frzV_rel r1 hf r3
 have r2':Ext (Heap.empty).n g .empty w g2 H2 w':=r2.trans q2
 obtain ⟨b1,b2⟩:=hR0.back_call q1 r2' 0
 obtain ⟨j1,j2,j3⟩:=hR.join (Hk:=.empty) (Nat.zero_le _) (fun id hid=>by simp [Heap.empty] at hid) b1 b2 lo
 exact ⟨_,j1,j2,j3 _ _ (q3.strip.pure hv)⟩
theorem contract_frz (Sa:Sane C) (hP:PrimsOk C P) {f:FuncId} {fn:Func} {c:Code} {args:List AV} {v:AV} {rs:List ResultVar} (hg:C.good f=true) (hf:C.P.funcs[f]? = some fn) (hb:fn.body=some c) (hr:fn.results=rs.toArray) (hp:pureAll args=true) (hv:v.pure=true)
 (h:W (C.withPrims P) 0 f false c (argsT args 0 .leaf) .empty [] (bodyPost (C.withPrims P) rs fun v' H'=>∃ v2 H2,frzV 0 H' v'=some (v2,H2)∧v2.strip=v)) (lo:Nat) (H:Heap):CallOk C lo f args H v H:=by
 obtain ⟨v',H',h1,v2,H2,h2,h3⟩:=R_of_body (C:=C.withPrims P) hg hf hb hr h
 obtain ⟨k,hk⟩:=(R_iff (C.withPrims P)).1 h1
 have:=memo_frz (Sa.withPrims hP) hk hp (v2:=v2) (H2:=H2) h2 (by rw [h3];exact hv) lo H
 rw [h3] at this
 exact (callOk_prims hP).1 this
end Go.Sim

namespace Go.Sim
open Go Go.Proofs
def letB (x:Int):Bool:=!decide (x < 65) && !decide (90 < x) || !decide (x < 97) && !decide (122 < x)
def digB (x:Int):Bool:=!decide (x < 48) && !decide (57 < x)
def restB (x:Int):Bool:=letB x || digB x || decide (x=95)
def nameB:List Nat→Bool
 | []=>false
 | c::r=>decide ((c::r).length≤24) && letB c && r.all fun x=>restB x
theorem nameB_at {s:List Nat} (h0:s ≠ []) (h1:s.length≤24) (h2:∀ c:Nat,s[0]? = some c→letB c=true) (h3:∀ (i c:Nat),1≤i→s[i]? = some c→restB c=true):nameB s=true:=by
 cases s with
 | nil=>exact absurd rfl h0
 | cons c r =>
   unfold nameB
   simp only [Bool.and_eq_true,decide_eq_true_eq,List.all_eq_true]
   refine ⟨⟨h1,h2 c rfl⟩,fun x hx => ?_⟩
   obtain ⟨i,hi⟩:=List.mem_iff_getElem?.1 hx
   exact h3 (i+1) x (by omega) (by simpa using hi)
theorem nameB_not0 {s:List Nat} {c:Nat} (h:s[0]? = some c) (hl:letB c=false):nameB s=false:=by
 cases s with
 | nil=>simp at h
 | cons d r=>simp at h;subst h;simp [nameB,hl]
theorem nameB_not {s:List Nat} {i c:Nat} (hi:1≤i) (h:s[i]? = some c) (hl:restB c=false):nameB s=false:=by
 cases s with
 | nil=>simp at h
 | cons d r =>
   unfold nameB
   have:(r.all fun x=>restB x)=false:=by
    rw [List.all_eq_false]
    refine ⟨c, ?_,by simp [hl]⟩
    obtain ⟨j,rfl⟩:∃ j,i=j+1:=⟨i - 1,by omega⟩
    exact List.mem_of_getElem? (by simpa using h)
   simp [this]
def numF:List Nat→Int→Int
 | [],n=>n
 | c::r,n=>numF r (10 * n+((c:Int) - 48))
def digsB (s:List Nat):Bool:=s.all fun c=>digB (c:Int)
def intF (s:List Nat):Int × Bool:=if s ≠ []∧s.length≤9∧digsB s=true∧(s.length=1∨s[0]? ≠ some 48) then (numF s 0,true) else (0,false)
theorem digB_iff (x:Int):digB x=true ↔ 48≤x∧x≤57:=by
 unfold digB
 simp only [Bool.and_eq_true,Bool.not_eq_true',decide_eq_false_iff_not]
 omega
abbrev Wd:Type:=List Nat
theorem beqL_dec (a b:Wd):beqL a b=decide (a=b):=by
 rw [beqL_eq,Bool.eq_iff_iff]
 simp
theorem numF_snoc:∀ (a:Wd) (c:Nat) (n:Int),numF (a++[c]) n=10 * numF a n+((c:Int) - 48)
 | [],_,_=>rfl
 | _::r,c,n=>numF_snoc r c _
def itoaN (f n:Nat):Wd:=(digs f n).reverse
theorem itoaN_succ (f n:Nat):itoaN (f+1) n=if n < 10 then [48+n] else itoaN f (n / 10)++[48+n % 10]:=by
 unfold itoaN
 show (cond (Nat.blt n 10) [48+n] ((48+n % 10)::digs f (n / 10))).reverse=_
 by_cases h:n < 10
 · have:Nat.blt n 10=true:=by rw [Nat.blt_eq];exact h
   rw [this,if_pos h];rfl
 · have:Nat.blt n 10=false:=by
    rw [Bool.eq_false_iff];intro h';rw [Nat.blt_eq] at h';exact h h'
   rw [this,if_neg h]
   simp
theorem itoaL_nat (n:Nat):itoaL (n:Int)=itoaN 20 n:=rfl
theorem digB_nat {d:Nat} (h:d < 10):digB ((48+d:Nat):Int)=true:=by
 rw [digB_iff];omega
theorem digsB_snoc (a:Wd) (c:Nat):digsB (a++[c])=(digsB a && digB (c:Int)):=by
 unfold digsB;simp
structure IsNum (w:Wd) (n:Nat):Prop where
 num:numF w 0=(n:Int)
 dig:digsB w=true
 ne:w ≠ []
 lead:n ≠ 0→w[0]? ≠ some 48
 one:n < 10→w.length=1
 len:∀ k,1≤k→n < 10 ^ k→w.length≤k
theorem itoaN_ok:∀ (f n:Nat),n < 10 ^ (f+1)→IsNum (itoaN (f+1) n) n
 | f,n,h=>by
   rw [itoaN_succ]
   by_cases h1:n < 10
   · rw [if_pos h1]
     refine ⟨?_, ?_,by simp,fun h0 => ?_,fun _=>rfl,fun k hk _=>by simpa using hk⟩
     · show 10 * 0+(((48+n:Nat):Int) - 48)=n
       omega
     · have:=digB_nat h1
       unfold digsB
       simp only [List.all_cons,List.all_nil,Bool.and_true]
       exact this
     · simp only [List.getElem?_cons_zero,ne_eq,Option.some.injEq]
       omega
   · rw [if_neg h1]
     obtain ⟨f,rfl⟩:∃ f',f=f'+1:=⟨f - 1,by
      cases f with
      | zero=>simp at h;omega
      | succ f=>simp⟩
     have ih:=itoaN_ok f (n / 10) (by rw [Nat.pow_succ] at h;omega)
     have hd:n % 10 < 10:=Nat.mod_lt _ (by decide)
     refine ⟨?_, ?_,by simp,fun _ => ?_,fun h=>absurd h h1,fun k hk hlt => ?_⟩
     · rw [numF_snoc,ih.num];omega
     · rw [digsB_snoc,ih.dig,digB_nat hd];rfl
     · have:=ih.lead (by omega)
       cases hi:itoaN (f+1) (n / 10) with
       | nil=>exact absurd hi ih.ne
       | cons a r=>rw [hi] at this;simpa using this
     · rw [List.length_append,List.length_singleton]
       obtain ⟨k,rfl⟩:∃ k',k=k'+1:=⟨k - 1,by omega⟩
       rcases Nat.eq_zero_or_pos k with rfl | hk0
       · simp at hlt;omega
       · have:=ih.len k hk0 (by rw [Nat.pow_succ] at hlt;omega)
         omega
theorem intF_itoa {n:Int} (h0:0≤n) (h1:n < 1000000000):intF (itoaL n)=(n,true):=by
 obtain ⟨m,rfl⟩:∃ m:Nat,n=(m:Int):=⟨n.toNat,by omega⟩
 rw [itoaL_nat]
 have h:=itoaN_ok 19 m (by have:(1000000000:Nat)≤10 ^ (19+1):=by decide
                           omega)
 have hz:(itoaN 20 m).length=1∨(itoaN 20 m)[0]? ≠ some 48:=by
  by_cases hm:m=0
  · exact .inl (h.one (by omega))
  · exact .inr (h.lead hm)
 unfold intF
 rw [if_pos ⟨h.ne,h.len 9 (by decide) (by simp;omega),h.dig,hz⟩,h.num]
end Go.Sim

namespace Go.Sim.Pos
abbrev Nm:Type:=List Nat
structure Trk where
 name:Nm
 speed:Int
deriving DecidableEq,Inhabited
structure Flt where
 name:Nm
 track:Nm
 frm:Int
 to:Int
 speed:Int
 ans:Bool
 rep:Bool
deriving DecidableEq,Inhabited
structure Trn where
 name:Nm
 track:Nm
 speed:Int
deriving DecidableEq,Inhabited
structure Pos where
 name:Nm
 track:Nm
 frm:Int
 to:Int
 ret:Bool
 prot:Bool
 opn:Bool
 closed:Int
 pers:Int
 speed:Int
deriving DecidableEq,Inhabited
structure Mch where
 name:Nm
 poss:Nm
deriving DecidableEq,Inhabited
structure Reg where
 tick:Int
 tracks:List Trk
 faults:List Flt
 trains:List Trn
 poss:List Pos
 machs:List Mch
deriving DecidableEq,Inhabited
def zReg:Reg:=⟨0,[],[],[],[],[]⟩
inductive Act
 | track (t:Nm) (v:Int)
 | fault (f t:Nm) (a b v:Int)
 | answer (f:Nm)
 | repair (f p:Nm)
 | enter (x t:Nm) (v:Int)
 | leave (x:Nm)
 | take (p t:Nm) (a b:Int)
 | prot (p:Nm)
 | clear (p:Nm)
 | into (m p:Nm)
 | out (m:Nm)
 | staff (p:Nm) (v:Int)
 | off (p:Nm) (v:Int)
 | opn (p:Nm)
 | close (p:Nm) (v:Int)
 | ret (p:Nm)
 | raise (p:Nm) (v:Int)
deriving DecidableEq,Inhabited
def Reg.track? (r:Reg) (x:Nm):Option Trk:=r.tracks.find? fun y=>decide (y.name=x)
def Reg.fault? (r:Reg) (x:Nm):Option Flt:=r.faults.find? fun y=>decide (y.name=x)
def Reg.train? (r:Reg) (x:Nm):Option Trn:=r.trains.find? fun y=>decide (y.name=x)
def Reg.poss? (r:Reg) (x:Nm):Option Pos:=r.poss.find? fun y=>decide (y.name=x)
def Reg.mach? (r:Reg) (x:Nm):Option Mch:=r.machs.find? fun y=>decide (y.name=x)
def Reg.within (r:Reg) (p:Nm):List Mch:=r.machs.filter fun m=>decide (m.poss=p)
def Reg.taken (r:Reg) (t:Nm):Bool:=r.poss.any fun p=>decide (p.track=t) && !p.ret
def Flt.silent (f:Flt):Bool:=!f.rep && !f.ans
def Reg.silentOn (r:Reg) (t:Nm):Bool:=r.faults.any fun f=>decide (f.track=t) && f.silent
def minI (a b:Int):Int:=if b < a then b else a
def Reg.permitted (r:Reg) (t:Nm):Int :=
 ((r.poss.filter fun p=>decide (p.track=t) && p.ret).map (·.speed)).foldl minI
   (((r.faults.filter fun f=>decide (f.track=t) && (f.ans && !f.rep)).map (·.speed)).foldl minI (match r.track? t with
     | some x=>x.speed
     | none=>0))
def over (a b c d:Int):Bool:=decide (a < d) && decide (c < b)
def Reg.overlaps (r:Reg) (t:Nm) (a b:Int):Bool:=r.poss.any fun p=>(decide (p.track=t) && !p.ret) && over p.frm p.to a b
def Reg.manned (r:Reg) (t:Nm):Bool:=r.trains.any fun x=>decide (x.track=t)
def inOpen (r:Reg) (p:Nm) (f:Pos→Int):Int:=match r.poss? p with
 | none=>10
 | some y=>if y.ret then 23 else f y
def okA (r:Reg) (tk:Int) (a:Act):Int:=if tk < r.tick then 22 else match a with
 | .track t v=>if (r.track? t).isSome then 9 else if v < 1∨400 < v then 3 else if 8≤r.tracks.length then 5 else 0
 | .fault f t a b v=>if (r.track? t).isNone then 10 else if (r.fault? f).isSome then 9 else if b≤a∨100000000 < b then 14 else if 400 < v then 3 else if 64≤r.faults.length then 5 else 0
 | .answer f=>match r.fault? f with
   | none=>10
   | some y=>if y.rep then 23 else if y.ans then 9 else 0
 | .repair f p=>match r.fault? f with
   | none=>10
   | some y=>match r.poss? p with
     | none=>10
     | some q=>if y.rep then 23 else if q.ret∨q.track ≠ y.track∨y.frm < q.frm∨q.to < y.to then 21 else if q.pers=0∧r.within p=[] then 12 else 0
 | .enter x t v=>if (r.track? t).isNone then 10 else if (r.train? x).isSome then 9 else if r.taken t then 31 else if r.silentOn t then 32 else if v < 1∨r.permitted t < v then 20 else if 16≤r.trains.length then 5 else 0
 | .leave x=>if (r.train? x).isNone then 10 else 0
 | .take p t a b=>if (r.track? t).isNone then 10 else if (r.poss? p).isSome then 9 else if b≤a∨100000000 < b then 14 else if r.manned t then 31 else if r.overlaps t a b then 15 else if 16≤r.poss.length then 5 else 0
 | .prot p=>inOpen r p fun y=>if y.prot then 9 else 0
 | .clear p=>inOpen r p fun y=>if !y.prot then 22 else if 0 < y.pers∨r.within p ≠ [] then 32 else 0
 | .into m p=>match r.poss? p with
   | none=>10
   | some y=>if (r.mach? m).isSome then 9 else if y.ret then 23 else if !y.prot then 21 else if 16≤r.machs.length then 5 else 0
 | .out m=>if (r.mach? m).isNone then 10 else 0
 | .staff p v=>inOpen r p fun y=>if v < 1∨100 < v then 3 else if !y.prot then 21 else if 100 < y.pers+v then 4 else 0
 | .off p v=>inOpen r p fun y=>if v < 1∨100 < v then 3 else if y.pers < v then 16 else 0
 | .opn p=>inOpen r p fun y=>if y.opn then 9 else if 8≤y.closed then 5 else 0
 | .close p v=>inOpen r p fun y=>if v < 1∨400 < v then 3 else if !y.opn then 22 else 0
 | .ret p=>inOpen r p fun y=>if r.within p ≠ []∨0 < y.pers∨y.opn∨y.prot then 32 else if y.closed=0 then 7 else 0
 | .raise p v=>match r.poss? p with
   | none=>10
   | some y=>if !y.ret then 22 else if 400 < v then 3 else if v≤y.speed then 21 else 0
def updF (l:List Flt) (f:Nm) (g:Flt→Flt):List Flt:=l.map fun x=>if x.name=f then g x else x
def updP (l:List Pos) (p:Nm) (g:Pos→Pos):List Pos:=l.map fun x=>if x.name=p then g x else x
def Reg.chP (r:Reg) (tk:Int) (p:Nm) (g:Pos→Pos):Reg:={ r with tick:=tk,poss:=updP r.poss p g }
def doA (r:Reg) (tk:Int):Act→Reg
 | .track t v=>{ r with tick:=tk,tracks:=r.tracks++[⟨t,v⟩] }
 | .fault f t a b v=>{ r with tick:=tk,faults:=r.faults++[⟨f,t,a,b,v,false,false⟩] }
 | .answer f=>{ r with tick:=tk,faults:=updF r.faults f fun x=>{ x with ans:=true } }
 | .repair f _=>{ r with tick:=tk,faults:=updF r.faults f fun x=>{ x with rep:=true } }
 | .enter x t v=>{ r with tick:=tk,trains:=r.trains++[⟨x,t,v⟩] }
 | .leave x=>{ r with tick:=tk,trains:=r.trains.filter fun y=>decide (y.name ≠ x) }
 | .take p t a b=>{ r with tick:=tk,poss:=r.poss++[⟨p,t,a,b,false,false,false,0,0,0⟩] }
 | .prot p=>r.chP tk p fun y=>{ y with prot:=true }
 | .clear p=>r.chP tk p fun y=>{ y with prot:=false }
 | .into m p=>{ r with tick:=tk,machs:=r.machs++[⟨m,p⟩] }
 | .out m=>{ r with tick:=tk,machs:=r.machs.filter fun y=>decide (y.name ≠ m) }
 | .staff p v=>r.chP tk p fun y=>{ y with pers:=y.pers+v }
 | .off p v=>r.chP tk p fun y=>{ y with pers:=y.pers - v }
 | .opn p=>r.chP tk p fun y=>{ y with opn:=true }
 | .close p v=>r.chP tk p fun y=>{ y with opn:=false,closed:=y.closed+1,speed:=v }
 | .ret p=>r.chP tk p fun y=>{ y with ret:=true }
 | .raise p v=>r.chP tk p fun y=>{ y with speed:=v }
theorem map_id_on {α:Type} {g:α→α}:∀ {l:List α},(∀ x ∈ l,g x=x)→l.map g=l
 | [],_=>rfl
 | a::r,h=>by
   rw [List.map_cons,h a (by simp),map_id_on fun x hx=>h x (by simp [hx])]
def Uniq {α:Type} (nm:α→Nm) (l:List α):Prop:=(l.map nm).Nodup
theorem Uniq.eq {α:Type} {nm:α→Nm}:∀ {l:List α},Uniq nm l → ∀ {x y:α},x ∈ l→y ∈ l→nm x=nm y→x=y
 | [],_,x,_,hx,_,_=>by cases hx
 | a::r,h,x,y,hx,hy,he=>by
   unfold Uniq at h
   rw [List.map_cons,List.nodup_cons] at h
   rcases List.mem_cons.1 hx with e1 | h1<;>rcases List.mem_cons.1 hy with e2 | h2
   · rw [e1,e2]
   · exact absurd (by rw [← e1,he];exact List.mem_map_of_mem h2) h.1
   · exact absurd (by rw [← e2,← he];exact List.mem_map_of_mem h1) h.1
   · exact Uniq.eq (l:=r) h.2 h1 h2 he
theorem Uniq.snoc {α:Type} {nm:α→Nm} {l:List α} {a:α} (h:Uniq nm l) (hn:(l.find? fun y=>decide (nm y=nm a))=none):Uniq nm (l++[a]):=by
 unfold Uniq at *
 rw [List.map_append,List.nodup_append]
 refine ⟨h,by simp, ?_⟩
 intro x hx y hy
 have:y=nm a:=by simpa using hy
 subst this
 obtain ⟨z,hz,rfl⟩:=List.mem_map.1 hx
 rw [List.find?_eq_none] at hn
 simpa using hn z hz
theorem Uniq.filter {α:Type} {nm:α→Nm} {l:List α} {p:α→Bool} (h:Uniq nm l):Uniq nm (l.filter p):=by
 unfold Uniq at *
 exact List.Nodup.sublist (List.Sublist.map nm List.filter_sublist) h
theorem Uniq.map {α:Type} {nm:α→Nm} {l:List α} {g:α→α} (h:Uniq nm l) (hg:∀ x,nm (g x)=nm x):Uniq nm (l.map g):=by
 unfold Uniq at *
 rw [List.map_map]
 have:(nm ∘ g)=nm:=funext hg
 rw [this];exact h
end Go.Sim.Pos

namespace Go.Sim.Pos
structure Inv (r:Reg):Prop where
 uT:Uniq Trk.name r.tracks
 uF:Uniq Flt.name r.faults
 uN:Uniq Trn.name r.trains
 uP:Uniq Pos.name r.poss
 uM:Uniq Mch.name r.machs
 rF:∀ f ∈ r.faults,(r.track? f.track).isSome=true
 rN:∀ f ∈ r.trains,(r.track? f.track).isSome=true
 rP:∀ f ∈ r.poss,(r.track? f.track).isSome=true
 rM:∀ m ∈ r.machs,(r.poss? m.poss).isSome=true
theorem find_mem {α:Type} {q:α→Bool} {l:List α} {y:α} (h:l.find? q=some y):y ∈ l∧q y=true:=⟨List.mem_of_find?_eq_some h,List.find?_some h⟩
theorem isNone_some {α:Type} {o:Option α} (h:¬ o.isNone=true):∃ y,o=some y:=by
 cases o with
 | none=>exact absurd rfl h
 | some y=>exact ⟨y,rfl⟩
theorem isSome_none {α:Type} {o:Option α} (h:¬ o.isSome=true):o=none:=by
 cases o with
 | none=>rfl
 | some y=>exact absurd rfl h
section
variable {r:Reg} {t:Nm} {k:Int}
end
end Go.Sim.Pos

namespace Go.Sim.Pos
def KeepP (g:Pos→Pos):Prop:=∀ y,(g y).name=y.name∧(g y).track=y.track
theorem open_some {r:Reg} {p:Nm} {f:Pos→Int} (h:inOpen r p f=0):∃ q,r.poss? p=some q∧q.ret=false∧f q=0:=by
 unfold inOpen at h
 cases hp:r.poss? p with
 | none=>rw [hp] at h;cases h
 | some y =>
   rw [hp] at h
   simp only at h
   split at h
   · cases h
   · rename_i hr
     exact ⟨y,rfl,by simpa using hr,h⟩
def Act.onP:Act→Option Nm
 | .prot p | .clear p | .staff p _ | .off p _ | .opn p | .close p _ | .ret p | .raise p _ | .into _ p=>some p
 | _=>none
theorem ok_poss {r:Reg} {tk:Int} {a:Act} (ho:okA r tk a=0) {p:Nm} (hp:a.onP=some p):∃ q,r.poss? p=some q:=by
 unfold okA at ho
 split at ho
 · cases ho
 cases a<;>simp only [Act.onP] at hp<;>cases hp
 all_goals
  first
   | exact (open_some ho).imp fun q h=>h.1
   | (cases h:r.poss? p with
       | none=>simp [h] at ho
       | some y=>exact ⟨y,rfl⟩)
theorem ok_fault {r:Reg} {tk:Int} {f:Nm} (ho:okA r tk (.answer f)=0 ∨ ∃ p,okA r tk (.repair f p)=0):∃ q,r.fault? f=some q:=by
 cases h:r.fault? f with
 | some q=>exact ⟨q,rfl⟩
 | none =>
   rcases ho with ho | ⟨p,ho⟩
   · unfold okA at ho
     split at ho
     · cases ho
     · simp [h] at ho
   · unfold okA at ho
     split at ho
     · cases ho
     · simp [h] at ho
end Go.Sim.Pos

namespace Go.Sim.Pos
theorem isSome_snoc {α:Type} {p:α→Bool} {l:List α} (a:α) (h:(l.find? p).isSome=true):((l++[a]).find? p).isSome=true:=by
 rw [List.find?_append]
 cases hl:l.find? p with
 | none=>rw [hl] at h;cases h
 | some y=>rfl
theorem updP_some {r:Reg} {p x:Nm} {g:Pos→Pos} (hg:KeepP g):((updP r.poss p g).find? fun y=>decide (y.name=x)).isSome=(r.poss? x).isSome:=by
 unfold updP Reg.poss?
 rw [List.find?_map]
 have:((fun y:Pos=>decide (y.name=x)) ∘ fun y=>if y.name=p then g y else y)=fun y=>decide (y.name=x):=by
  funext y
  show decide ((if y.name=p then g y else y).name=x)=_
  split
  · rw [(hg y).1]
  · rfl
 rw [this]
 cases r.poss.find? fun y=>decide (y.name=x)<;>rfl
theorem Inv.chP {r:Reg} (I:Inv r) {tk:Int} {p:Nm} {g:Pos→Pos} (hg:KeepP g):Inv (r.chP tk p g):=by
 refine ⟨I.uT,I.uF,I.uN,I.uP.map fun y => ?_,I.uM,I.rF,I.rN,fun y hy => ?_,fun m hm => ?_⟩
 · show (if y.name=p then g y else y).name=y.name
   split
   · exact (hg y).1
   · rfl
 · obtain ⟨z,hz,rfl⟩:=List.mem_map.1 hy
   have:(if z.name=p then g z else z).track=z.track:=by
    split
    · exact (hg z).2
    · rfl
   rw [this]
   exact I.rP z hz
 · show ((updP r.poss p g).find? _).isSome=true
   rw [updP_some hg];exact I.rM m hm
theorem Inv.chF {r:Reg} (I:Inv r) {tk:Int} {f:Nm} {g:Flt→Flt} (hn:∀ y,(g y).name=y.name) (hg:∀ y,(g y).track=y.track):Inv { r with tick:=tk,faults:=updF r.faults f g }:=by
 refine ⟨I.uT,I.uF.map fun y => ?_,I.uN,I.uP,I.uM,fun y hy => ?_,I.rN,I.rP,I.rM⟩
 · show (if y.name=f then g y else y).name=y.name
   split
   · exact hn y
   · rfl
 · obtain ⟨z,hz,rfl⟩:=List.mem_map.1 hy
   have:(if z.name=f then g z else z).track=z.track:=by
    split
    · exact hg z
    · rfl
   rw [this]
   exact I.rF z hz
theorem inv_zero:Inv zReg:=⟨by unfold Uniq;simp [zReg],by unfold Uniq;simp [zReg],by unfold Uniq;simp [zReg],by unfold Uniq;simp [zReg],by unfold Uniq;simp [zReg],fun f h=>(by cases h),fun f h=>(by cases h),fun f h=>(by cases h),fun f h=>(by cases h)⟩
theorem mem_snoc {α:Type} {l:List α} {a x:α} (h:x ∈ l++[a]):x ∈ l∨x=a:=by simpa using h
theorem inv_do {r:Reg} {tk:Int} {a:Act} (I:Inv r) (ho:okA r tk a=0):Inv (doA r tk a):=by
 have hO:=ho
 unfold okA at ho
 split at ho
 · cases ho
 cases a with
 | track x v =>
   simp only at ho
   split at ho
   · cases ho
   rename_i h1
   have s:∀ y,(r.track? y).isSome=true→((r.tracks++[(⟨x,v⟩:Trk)]).find? fun z=>decide (z.name=y)).isSome=true:=fun y h=>isSome_snoc _ h
   exact ⟨I.uT.snoc (a:=Trk.mk x v) (isSome_none (o:=r.track? x) h1),I.uF,I.uN,I.uP,I.uM,fun f h=>s _ (I.rF f h),fun f h=>s _ (I.rN f h),fun f h=>s _ (I.rP f h),I.rM⟩
 | fault f x a b v =>
   simp only at ho
   split at ho
   · cases ho
   rename_i h1
   split at ho
   · cases ho
   rename_i h2
   refine ⟨I.uT,I.uF.snoc (a:=Flt.mk f x a b v false false) (isSome_none (o:=r.fault? f) h2),I.uN,I.uP,I.uM,fun y h => ?_,I.rN,I.rP,I.rM⟩
   rcases mem_snoc h with h | rfl
   · exact I.rF y h
   · obtain ⟨z,hz⟩:=isNone_some h1
     show (r.track? x).isSome=true
     rw [hz];rfl
 | answer f=>exact I.chF (fun _=>rfl) fun _=>rfl
 | repair f p=>exact I.chF (fun _=>rfl) fun _=>rfl
 | enter x y v =>
   simp only at ho
   split at ho
   · cases ho
   rename_i h1
   split at ho
   · cases ho
   rename_i h2
   refine ⟨I.uT,I.uF,I.uN.snoc (a:=Trn.mk x y v) (isSome_none (o:=r.train? x) h2),I.uP,I.uM,I.rF,fun z h => ?_,I.rP,I.rM⟩
   rcases mem_snoc h with h | rfl
   · exact I.rN z h
   · obtain ⟨q,hq⟩:=isNone_some h1
     show (r.track? y).isSome=true
     rw [hq];rfl
 | leave x=>exact ⟨I.uT,I.uF,I.uN.filter,I.uP,I.uM,I.rF,fun z h=>I.rN z (List.mem_filter.1 h).1,I.rP,I.rM⟩
 | take p y a b =>
   simp only at ho
   split at ho
   · cases ho
   rename_i h1
   split at ho
   · cases ho
   rename_i h2
   refine ⟨I.uT,I.uF,I.uN,I.uP.snoc (a:=Pos.mk p y a b false false false 0 0 0) (isSome_none (o:=r.poss? p) h2),I.uM,I.rF,I.rN,fun z h => ?_,fun m hm=>isSome_snoc _ (I.rM m hm)⟩
   rcases mem_snoc h with h | rfl
   · exact I.rP z h
   · obtain ⟨q,hq⟩:=isNone_some h1
     show (r.track? y).isSome=true
     rw [hq];rfl
 | prot p=>exact I.chP fun _=>⟨rfl,rfl⟩
 | clear p=>exact I.chP fun _=>⟨rfl,rfl⟩
 | into m p =>
   obtain ⟨q,hq⟩:=ok_poss hO (p:=p) rfl
   simp only [hq] at ho
   split at ho
   · cases ho
   rename_i h1
   refine ⟨I.uT,I.uF,I.uN,I.uP,I.uM.snoc (a:=Mch.mk m p) (isSome_none (o:=r.mach? m) h1),I.rF,I.rN,I.rP,fun z h => ?_⟩
   rcases mem_snoc h with h | rfl
   · exact I.rM z h
   · show (r.poss? p).isSome=true
     rw [hq];rfl
 | out m=>exact ⟨I.uT,I.uF,I.uN,I.uP,I.uM.filter,I.rF,I.rN,I.rP,fun z h=>I.rM z (List.mem_filter.1 h).1⟩
 | staff p v=>exact I.chP fun _=>⟨rfl,rfl⟩
 | off p v=>exact I.chP fun _=>⟨rfl,rfl⟩
 | opn p=>exact I.chP fun _=>⟨rfl,rfl⟩
 | close p v=>exact I.chP fun _=>⟨rfl,rfl⟩
 | ret p=>exact I.chP fun _=>⟨rfl,rfl⟩
 | raise p v=>exact I.chP fun _=>⟨rfl,rfl⟩
abbrev TA:Type:=Int × Act
def stepO (r:Reg) (e:TA):Option Reg:=if okA r e.1 e.2=0 then some (doA r e.1 e.2) else none
def runO (r:Reg):List TA→Option Reg
 | []=>some r
 | e::l=>match stepO r e with
   | none=>none
   | some r'=>runO r' l
theorem step_some {r r':Reg} {e:TA} (h:stepO r e=some r'):okA r e.1 e.2=0∧r'=doA r e.1 e.2:=by
 unfold stepO at h
 split at h
 · rename_i h1
   exact ⟨h1,(Option.some.inj h).symm⟩
 · cases h
theorem run_cons {r r':Reg} {e:TA} {l:List TA} (h:runO r (e::l)=some r'):okA r e.1 e.2=0∧runO (doA r e.1 e.2) l=some r':=by
 unfold runO at h
 cases hs:stepO r e with
 | none=>rw [hs] at h;cases h
 | some r1 =>
   rw [hs] at h
   obtain ⟨h1,rfl⟩:=step_some hs
   exact ⟨h1,h⟩
theorem run_ok {r:Reg} {e:TA} {l:List TA} (h:okA r e.1 e.2=0):runO r (e::l)=runO (doA r e.1 e.2) l:=by
 show (match stepO r e with
  | none=>none
  | some r'=>runO r' l)=_
 unfold stepO
 rw [if_pos h]
theorem run_app:∀ (l m:List TA) (r:Reg),runO r (l++m)=(runO r l).bind fun r'=>runO r' m
 | [],m,r=>rfl
 | e::l,m,r=>by
   show (match stepO r e with
    | none=>none
    | some r'=>runO r' (l++m))=(match stepO r e with
    | none=>none
    | some r'=>runO r' l).bind _
   cases stepO r e with
   | none=>rfl
   | some r'=>exact run_app l m r'
end Go.Sim.Pos

namespace Go.Sim.Pos
structure Safe (r:Reg):Prop where
 free:∀ p ∈ r.poss,p.ret=false → ∀ x ∈ r.trains,x.track ≠ p.track
 apart:r.poss.Pairwise fun q p=>q.ret=false→p.ret=false→q.track=p.track→over q.frm q.to p.frm p.to=false
 span:∀ p ∈ r.poss,p.frm < p.to
 pers:∀ p ∈ r.poss,0≤p.pers∧p.pers≤100
 closed:∀ p ∈ r.poss,0≤p.closed∧p.closed≤8∧(p.opn=true→p.closed≤7)
 speed:∀ t ∈ r.tracks,1≤t.speed∧t.speed≤400
 nT:r.tracks.length≤8
 nF:r.faults.length≤64
 nN:r.trains.length≤16
 nP:r.poss.length≤16
 nM:r.machs.length≤16
theorem safe_zero:Safe zReg:=⟨fun p h=>(by cases h),.nil,fun p h=>(by cases h),fun p h=>(by cases h),fun p h=>(by cases h),fun p h=>(by cases h),by simp [zReg],by simp [zReg],by simp [zReg],by simp [zReg],by simp [zReg]⟩
structure Mild (g:Pos→Pos):Prop where
 track:∀ y,(g y).track=y.track
 frm:∀ y,(g y).frm=y.frm
 to:∀ y,(g y).to=y.to
 ret:∀ y,(g y).ret=false→y.ret=false
theorem Safe.chP {r:Reg} (S:Safe r) {tk:Int} {p:Nm} {g:Pos→Pos} (hg:Mild g) (hc:∀ y ∈ r.poss,y.name=p→(0≤(g y).pers∧(g y).pers≤100)∧0≤(g y).closed∧(g y).closed≤8∧((g y).opn=true→(g y).closed≤7)):Safe (r.chP tk p g):=by
 have hm:∀ y,(if y.name=p then g y else y).track=y.track∧(if y.name=p then g y else y).frm=y.frm∧(if y.name=p then g y else y).to=y.to∧((if y.name=p then g y else y).ret=false→y.ret=false):=fun y=>by
  split
  · exact ⟨hg.track y,hg.frm y,hg.to y,hg.ret y⟩
  · exact ⟨rfl,rfl,rfl,id⟩
 refine ⟨fun x hx hr t ht => ?_, ?_,fun x hx => ?_,fun x hx => ?_,fun x hx => ?_,S.speed,S.nT,S.nF,S.nN, ?_,S.nM⟩
 · obtain ⟨y,hy,rfl⟩:=List.mem_map.1 hx
   have hr:(if y.name=p then g y else y).ret=false:=hr
   rw [show (if y.name=p then g y else y).track=y.track from (hm y).1]
   exact S.free y hy ((hm y).2.2.2 hr) t ht
 · refine List.pairwise_map.2 (S.apart.imp fun {a b} h h1 h2 h3 => ?_)
   rw [(hm a).1,(hm b).1] at h3
   rw [(hm a).2.1,(hm a).2.2.1,(hm b).2.1,(hm b).2.2.1]
   exact h ((hm a).2.2.2 h1) ((hm b).2.2.2 h2) h3
 · obtain ⟨y,hy,rfl⟩:=List.mem_map.1 hx
   rw [show (if y.name=p then g y else y).frm=y.frm from (hm y).2.1,show (if y.name=p then g y else y).to=y.to from (hm y).2.2.1]
   exact S.span y hy
 · obtain ⟨y,hy,rfl⟩:=List.mem_map.1 hx
   by_cases hn:y.name=p
   · rw [if_pos hn];exact (hc y hy hn).1
   · rw [if_neg hn];exact S.pers y hy
 · obtain ⟨y,hy,rfl⟩:=List.mem_map.1 hx
   by_cases hn:y.name=p
   · rw [if_pos hn];exact (hc y hy hn).2
   · rw [if_neg hn];exact S.closed y hy
 · show (updP r.poss p g).length≤16
   unfold updP
   rw [List.length_map];exact S.nP
theorem poss_is {r:Reg} (I:Inv r) {p:Nm} {q y:Pos} (hq:r.poss? p=some q) (hy:y ∈ r.poss) (hn:y.name=p):y=q:=by
 obtain ⟨h1,h2⟩:=find_mem hq
 exact I.uP.eq hy h1 (by simp only [decide_eq_true_eq] at h2;rw [hn,h2])
theorem safe_do {r:Reg} {tk:Int} {a:Act} (S:Safe r) (I:Inv r) (ho:okA r tk a=0):Safe (doA r tk a):=by
 have hO:=ho
 unfold okA at ho
 split at ho
 · cases ho
 cases a with
 | track x v =>
   simp only at ho
   split at ho
   · cases ho
   split at ho
   · cases ho
   rename_i h2
   split at ho
   · cases ho
   rename_i h3
   refine ⟨S.free,S.apart,S.span,S.pers,S.closed,fun t ht => ?_,by show (r.tracks++[_]).length≤8;simp;omega,S.nF,S.nN,S.nP,S.nM⟩
   rcases mem_snoc ht with h | rfl
   · exact S.speed t h
   · show 1≤v∧v≤400
     omega
 | fault f x a b v =>
   simp only at ho
   split at ho
   · cases ho
   split at ho
   · cases ho
   split at ho
   · cases ho
   split at ho
   · cases ho
   split at ho
   · cases ho
   rename_i h5
   exact ⟨S.free,S.apart,S.span,S.pers,S.closed,S.speed,S.nT,by show (r.faults++[_]).length≤64;simp;omega,S.nN,S.nP,S.nM⟩
 | answer f=>exact ⟨S.free,S.apart,S.span,S.pers,S.closed,S.speed,S.nT,by show (updF r.faults f _).length≤64;unfold updF;rw [List.length_map];exact S.nF,S.nN,S.nP,S.nM⟩
 | repair f p=>exact ⟨S.free,S.apart,S.span,S.pers,S.closed,S.speed,S.nT,by show (updF r.faults f _).length≤64;unfold updF;rw [List.length_map];exact S.nF,S.nN,S.nP,S.nM⟩
 | enter x y v =>
   simp only at ho
   split at ho
   · cases ho
   split at ho
   · cases ho
   split at ho
   · cases ho
   rename_i h3
   split at ho
   · cases ho
   split at ho
   · cases ho
   split at ho
   · cases ho
   rename_i h6
   refine ⟨fun p hp hr t ht => ?_,S.apart,S.span,S.pers,S.closed,S.speed,S.nT,S.nF,by show (r.trains++[_]).length≤16;simp;omega,S.nP,S.nM⟩
   rcases mem_snoc ht with h | rfl
   · exact S.free p hp hr t h
   · intro he
     have he:y=p.track:=he
     have h3:r.taken y=false:=by simpa using h3
     unfold Reg.taken at h3
     rw [List.any_eq_false] at h3
     have:=h3 p hp
     rw [hr] at this
     simp [he] at this
 | leave x=>exact ⟨fun p hp hr t ht=>S.free p hp hr t (List.mem_filter.1 ht).1,S.apart,S.span,S.pers,S.closed,S.speed,S.nT,S.nF,Nat.le_trans (List.length_filter_le _ _) S.nN,S.nP,S.nM⟩
 | take p y a b =>
   simp only at ho
   split at ho
   · cases ho
   split at ho
   · cases ho
   split at ho
   · cases ho
   rename_i h3
   split at ho
   · cases ho
   rename_i h4
   split at ho
   · cases ho
   rename_i h5
   split at ho
   · cases ho
   rename_i h6
   have h4:r.manned y=false:=by simpa using h4
   have h5:r.overlaps y a b=false:=by simpa using h5
   unfold Reg.manned at h4
   unfold Reg.overlaps at h5
   rw [List.any_eq_false] at h4 h5
   refine ⟨fun x hx hr t ht => ?_, ?_,fun x hx => ?_,fun x hx => ?_,fun x hx => ?_,S.speed,S.nT,S.nF,S.nN,by show (r.poss++[_]).length≤16;simp;omega,S.nM⟩
   · rcases mem_snoc hx with h | rfl
     · exact S.free x h hr t ht
     · intro he
       have he:t.track=y:=he
       have:=h4 t ht
       simp [he] at this
   · show (r.poss++[_]).Pairwise _
     rw [List.pairwise_append]
     refine ⟨S.apart,List.pairwise_singleton _ _,fun q hq z hz h1 h2 h3 => ?_⟩
     have hz:z=_:=List.mem_singleton.1 hz
     subst hz
     have:=h5 q hq
     have h3:q.track=y:=h3
     rw [h3,h1] at this
     show over q.frm q.to a b=false
     simpa using this
   · rcases mem_snoc hx with h | rfl
     · exact S.span x h
     · show a < b
       omega
   · rcases mem_snoc hx with h | rfl
     · exact S.pers x h
     · exact ⟨Int.le_refl _,by show (0:Int)≤100;omega⟩
   · rcases mem_snoc hx with h | rfl
     · exact S.closed x h
     · exact ⟨Int.le_refl _,by show (0:Int)≤8;omega,fun h=>by cases h⟩
 | prot p=>exact S.chP ⟨fun _=>rfl,fun _=>rfl,fun _=>rfl,fun _ h=>h⟩ fun y hy _=>⟨S.pers y hy,S.closed y hy⟩
 | clear p=>exact S.chP ⟨fun _=>rfl,fun _=>rfl,fun _=>rfl,fun _ h=>h⟩ fun y hy _=>⟨S.pers y hy,S.closed y hy⟩
 | into m p =>
   obtain ⟨q,hq⟩:=ok_poss hO (p:=p) rfl
   simp only [hq] at ho
   split at ho
   · cases ho
   split at ho
   · cases ho
   split at ho
   · cases ho
   split at ho
   · cases ho
   rename_i h4
   exact ⟨S.free,S.apart,S.span,S.pers,S.closed,S.speed,S.nT,S.nF,S.nN,S.nP,by show (r.machs++[_]).length≤16;simp;omega⟩
 | out m=>exact ⟨S.free,S.apart,S.span,S.pers,S.closed,S.speed,S.nT,S.nF,S.nN,S.nP,Nat.le_trans (List.length_filter_le _ _) S.nM⟩
 | staff p v =>
   obtain ⟨q,hq,_,h⟩:=open_some ho
   refine S.chP ⟨fun _=>rfl,fun _=>rfl,fun _=>rfl,fun _ h=>h⟩ fun y hy hn => ?_
   have:=poss_is I hq hy hn
   subst this
   have hp:=S.pers y hy
   refine ⟨?_,S.closed y hy⟩
   show 0≤y.pers+v∧y.pers+v≤100
   split at h
   · cases h
   split at h
   · cases h
   split at h
   · cases h
   omega
 | off p v =>
   obtain ⟨q,hq,_,h⟩:=open_some ho
   refine S.chP ⟨fun _=>rfl,fun _=>rfl,fun _=>rfl,fun _ h=>h⟩ fun y hy hn => ?_
   have:=poss_is I hq hy hn
   subst this
   have hp:=S.pers y hy
   refine ⟨?_,S.closed y hy⟩
   show 0≤y.pers - v∧y.pers - v≤100
   split at h
   · cases h
   split at h
   · cases h
   omega
 | opn p =>
   obtain ⟨q,hq,_,h⟩:=open_some ho
   refine S.chP ⟨fun _=>rfl,fun _=>rfl,fun _=>rfl,fun _ h=>h⟩ fun y hy hn => ?_
   have:=poss_is I hq hy hn
   subst this
   have hc:=S.closed y hy
   split at h
   · cases h
   split at h
   · cases h
   exact ⟨S.pers y hy,hc.1,hc.2.1,fun _=>by show y.closed≤7;omega⟩
 | close p v =>
   obtain ⟨q,hq,_,h⟩:=open_some ho
   refine S.chP ⟨fun _=>rfl,fun _=>rfl,fun _=>rfl,fun _ h=>h⟩ fun y hy hn => ?_
   have:=poss_is I hq hy hn
   subst this
   have hc:=S.closed y hy
   split at h
   · cases h
   split at h
   · cases h
   rename_i hop
   have hop:y.opn=true:=by simpa using hop
   have h7:=hc.2.2 hop
   exact ⟨S.pers y hy,by show 0≤y.closed+1;omega,by show y.closed+1≤8;omega,fun h=>by cases h⟩
 | ret p=>exact S.chP ⟨fun _=>rfl,fun _=>rfl,fun _=>rfl,fun _ h=>(by cases h)⟩ fun y hy _=>⟨S.pers y hy,S.closed y hy⟩
 | raise p v=>exact S.chP ⟨fun _=>rfl,fun _=>rfl,fun _=>rfl,fun _ h=>h⟩ fun y hy _=>⟨S.pers y hy,S.closed y hy⟩
theorem run_safe:∀ {l:List TA} {r r':Reg},Inv r→Safe r→runO r l=some r'→Inv r'∧Safe r'
 | [],r,r',I,S,h=>by cases h;exact ⟨I,S⟩
 | e::l,r,r',I,S,h=>by
   obtain ⟨h1,h2⟩:=run_cons h
   exact run_safe (inv_do I h1) (safe_do S I h1) h2
end Go.Sim.Pos

namespace Go.Sim.Pos
def Act.nn:Act→Prop
 | .fault _ _ _ _ v=>0≤v
 | _=>True
theorem foldl_min_ge {m:Int}:∀ (l:List Int) (a:Int),m≤a→(∀ x ∈ l,m≤x)→m≤l.foldl minI a
 | [],a,h,_=>h
 | b::l,a,h,hl=>by
   refine foldl_min_ge l (minI a b) ?_ fun x hx=>hl x (by simp [hx])
   have:=hl b (by simp)
   unfold minI
   split<;>omega
def nextE (r:Reg) (t:Nm):Int:=if r.taken t then 31 else if r.silentOn t then 32 else if r.permitted t=0 then 7 else 0
end Go.Sim.Pos

namespace Go.Sim.Pos
structure Ev where
 num:Int
 kind:Nm
 names:List Nm
 vals:List Int
 text:Nm
deriving DecidableEq,Inhabited
def kTrack:Nm:=[116,114,97,99,107]
def kFault:Nm:=[102,97,117,108,116]
def kAnswer:Nm:=[97,110,115,119,101,114]
def kRepair:Nm:=[114,101,112,97,105,114]
def kEnter:Nm:=[101,110,116,101,114]
def kLeave:Nm:=[108,101,97,118,101]
def kTake:Nm:=[116,97,107,101]
def kProtect:Nm:=[112,114,111,116,101,99,116]
def kClear:Nm:=[99,108,101,97,114]
def kIn:Nm:=[105,110]
def kOut:Nm:=[111,117,116]
def kStaff:Nm:=[115,116,97,102,102]
def kOff:Nm:=[111,102,102]
def kOpen:Nm:=[111,112,101,110]
def kClose:Nm:=[99,108,111,115,101]
def kReturn:Nm:=[114,101,116,117,114,110]
def kRaise:Nm:=[114,97,105,115,101]
def kUndo:Nm:=[117,110,100,111]
def formE (k:Nm):Option (Nat × Nat) :=
 if k=kTrack then some (1,2) else if k=kFault then some (2,4) else if k=kAnswer then some (1,1) else if k=kRepair then some (2,1) else if k=kEnter then some (2,2) else if k=kLeave then some (1,1) else if k=kTake then some (2,3) else if k=kProtect then some (1,1) else if k=kClear then some (1,1) else if k=kIn then some (2,1) else if k=kOut then some (1,1) else if k=kStaff then some (1,2) else if k=kOff then some (1,2) else if k=kOpen then some (1,1) else if k=kClose then some (1,2) else if k=kReturn then some (1,1) else if k=kRaise then some (1,2) else if k=kUndo then some (0,0) else none
def actE (e:Ev):Option TA :=
 if e.kind=kTrack then (match e.names,e.vals with
  | [t],[tk,v]=>some (tk,.track t v)
  | _,_=>none)
 else if e.kind=kFault then (match e.names,e.vals with
  | [f,t],[tk,a,b,v]=>some (tk,.fault f t a b v)
  | _,_=>none)
 else if e.kind=kAnswer then (match e.names,e.vals with
  | [f],[tk]=>some (tk,.answer f)
  | _,_=>none)
 else if e.kind=kRepair then (match e.names,e.vals with
  | [f,p],[tk]=>some (tk,.repair f p)
  | _,_=>none)
 else if e.kind=kEnter then (match e.names,e.vals with
  | [x,t],[tk,v]=>some (tk,.enter x t v)
  | _,_=>none)
 else if e.kind=kLeave then (match e.names,e.vals with
  | [x],[tk]=>some (tk,.leave x)
  | _,_=>none)
 else if e.kind=kTake then (match e.names,e.vals with
  | [p,t],[tk,a,b]=>some (tk,.take p t a b)
  | _,_=>none)
 else if e.kind=kProtect then (match e.names,e.vals with
  | [p],[tk]=>some (tk,.prot p)
  | _,_=>none)
 else if e.kind=kClear then (match e.names,e.vals with
  | [p],[tk]=>some (tk,.clear p)
  | _,_=>none)
 else if e.kind=kIn then (match e.names,e.vals with
  | [m,p],[tk]=>some (tk,.into m p)
  | _,_=>none)
 else if e.kind=kOut then (match e.names,e.vals with
  | [m],[tk]=>some (tk,.out m)
  | _,_=>none)
 else if e.kind=kStaff then (match e.names,e.vals with
  | [p],[tk,v]=>some (tk,.staff p v)
  | _,_=>none)
 else if e.kind=kOff then (match e.names,e.vals with
  | [p],[tk,v]=>some (tk,.off p v)
  | _,_=>none)
 else if e.kind=kOpen then (match e.names,e.vals with
  | [p],[tk]=>some (tk,.opn p)
  | _,_=>none)
 else if e.kind=kClose then (match e.names,e.vals with
  | [p],[tk,v]=>some (tk,.close p v)
  | _,_=>none)
 else if e.kind=kReturn then (match e.names,e.vals with
  | [p],[tk]=>some (tk,.ret p)
  | _,_=>none)
 else if e.kind=kRaise then (match e.names,e.vals with
  | [p],[tk,v]=>some (tk,.raise p v)
  | _,_=>none)
 else none
variable (nm:Nm→Bool)
def chkE (e:Ev):Int:=if e.num < 1∨1000 < e.num then 3 else match formE e.kind with
 | none=>13
 | some (a,b)=>if e.names.length ≠ a∨e.vals.length ≠ b then 2 else if e.names.all nm=false then 8 else if e.vals.any (fun v=>decide (v < 0) || decide (999999999 < v))=true then 3 else if e.text ≠ [] then 1 else 0
theorem len1 {α:Type} {l:List α} (h:l.length=1):∃ a,l=[a]:=List.length_eq_one_iff.1 h
theorem len2 {α:Type} {l:List α} (h:l.length=2):∃ a b,l=[a,b]:=by
 match l,h with
 | [a,b],_=>exact ⟨a,b,rfl⟩
theorem len3 {α:Type} {l:List α} (h:l.length=3):∃ a b c,l=[a,b,c]:=by
 match l,h with
 | [a,b,c],_=>exact ⟨a,b,c,rfl⟩
theorem len4 {α:Type} {l:List α} (h:l.length=4):∃ a b c d,l=[a,b,c,d]:=by
 match l,h with
 | [a,b,c,d],_=>exact ⟨a,b,c,d,rfl⟩
theorem chk_form {e:Ev} (h:chkE nm e=0):∃ a b,formE e.kind=some (a,b)∧e.names.length=a∧e.vals.length=b∧(∀ x ∈ e.names,nm x=true)∧(∀ v ∈ e.vals,0≤v∧v≤999999999)∧e.text=[]∧1≤e.num∧e.num≤1000:=by
 unfold chkE at h
 split at h
 · cases h
 rename_i h1
 split at h
 · cases h
 rename_i a b hf
 split at h
 · cases h
 rename_i h2
 split at h
 · cases h
 rename_i h3
 split at h
 · cases h
 rename_i h4
 split at h
 · cases h
 rename_i h5
 have h2':e.names.length=a∧e.vals.length=b:=by
  constructor
  · exact Decidable.byContradiction fun h=>h2 (.inl h)
  · exact Decidable.byContradiction fun h=>h2 (.inr h)
 refine ⟨a,b,hf,h2'.1,h2'.2, ?_, ?_,Decidable.byContradiction h5,by omega,by omega⟩
 · simpa using h3
 · intro v hv
   have h4:(e.vals.any fun v=>decide (v < 0) || decide (999999999 < v))=false:=by simpa using h4
   rw [List.any_eq_false] at h4
   have:=h4 v hv
   simp only [Bool.or_eq_true,decide_eq_true_eq] at this
   omega
theorem chk_act {e:Ev} (h:chkE nm e=0):(e.kind=kUndo∧e.names=[]∧e.vals=[])∨(e.kind ≠ kUndo ∧ ∃ tk a,actE e=some (tk,a)∧e.vals.head? = some tk∧a.nn):=by
 obtain ⟨a,b,hf,hn,hv,_,hr,_⟩:=chk_form nm h
 unfold formE at hf
 by_cases hk:e.kind=kTrack
 · rw [if_pos hk] at hf
   obtain ⟨rfl,rfl⟩:a=1∧b=2:=by
    have:=Option.some.inj hf
    exact ⟨(congrArg Prod.fst this).symm,(congrArg Prod.snd this).symm⟩
   refine .inr ⟨by rw [hk];decide, ?_⟩
   obtain ⟨t,en⟩:=len1 hn
   obtain ⟨tk,v,ev⟩:=len2 hv
   refine ⟨tk,.track t v, ?_,by rw [ev];rfl, ?_⟩
   · obtain ⟨z,kd,l1,l2,z2⟩:=e
     simp only at hk en ev
     subst hk en ev
     rfl
   · trivial
 rw [if_neg hk] at hf
 clear hk
 by_cases hk:e.kind=kFault
 · rw [if_pos hk] at hf
   obtain ⟨rfl,rfl⟩:a=2∧b=4:=by
    have:=Option.some.inj hf
    exact ⟨(congrArg Prod.fst this).symm,(congrArg Prod.snd this).symm⟩
   refine .inr ⟨by rw [hk];decide, ?_⟩
   obtain ⟨f,t,en⟩:=len2 hn
   obtain ⟨tk,a,b,v,ev⟩:=len4 hv
   refine ⟨tk,.fault f t a b v, ?_,by rw [ev];rfl, ?_⟩
   · obtain ⟨z,kd,l1,l2,z2⟩:=e
     simp only at hk en ev
     subst hk en ev
     rfl
   · exact (hr v (by rw [ev];simp)).1
 rw [if_neg hk] at hf
 clear hk
 by_cases hk:e.kind=kAnswer
 · rw [if_pos hk] at hf
   obtain ⟨rfl,rfl⟩:a=1∧b=1:=by
    have:=Option.some.inj hf
    exact ⟨(congrArg Prod.fst this).symm,(congrArg Prod.snd this).symm⟩
   refine .inr ⟨by rw [hk];decide, ?_⟩
   obtain ⟨f,en⟩:=len1 hn
   obtain ⟨tk,ev⟩:=len1 hv
   refine ⟨tk,.answer f, ?_,by rw [ev];rfl, ?_⟩
   · obtain ⟨z,kd,l1,l2,z2⟩:=e
     simp only at hk en ev
     subst hk en ev
     rfl
   · trivial
 rw [if_neg hk] at hf
 clear hk
 by_cases hk:e.kind=kRepair
 · rw [if_pos hk] at hf
   obtain ⟨rfl,rfl⟩:a=2∧b=1:=by
    have:=Option.some.inj hf
    exact ⟨(congrArg Prod.fst this).symm,(congrArg Prod.snd this).symm⟩
   refine .inr ⟨by rw [hk];decide, ?_⟩
   obtain ⟨f,p,en⟩:=len2 hn
   obtain ⟨tk,ev⟩:=len1 hv
   refine ⟨tk,.repair f p, ?_,by rw [ev];rfl, ?_⟩
   · obtain ⟨z,kd,l1,l2,z2⟩:=e
     simp only at hk en ev
     subst hk en ev
     rfl
   · trivial
 rw [if_neg hk] at hf
 clear hk
 by_cases hk:e.kind=kEnter
 · rw [if_pos hk] at hf
   obtain ⟨rfl,rfl⟩:a=2∧b=2:=by
    have:=Option.some.inj hf
    exact ⟨(congrArg Prod.fst this).symm,(congrArg Prod.snd this).symm⟩
   refine .inr ⟨by rw [hk];decide, ?_⟩
   obtain ⟨x,t,en⟩:=len2 hn
   obtain ⟨tk,v,ev⟩:=len2 hv
   refine ⟨tk,.enter x t v, ?_,by rw [ev];rfl, ?_⟩
   · obtain ⟨z,kd,l1,l2,z2⟩:=e
     simp only at hk en ev
     subst hk en ev
     rfl
   · trivial
 rw [if_neg hk] at hf
 clear hk
 by_cases hk:e.kind=kLeave
 · rw [if_pos hk] at hf
   obtain ⟨rfl,rfl⟩:a=1∧b=1:=by
    have:=Option.some.inj hf
    exact ⟨(congrArg Prod.fst this).symm,(congrArg Prod.snd this).symm⟩
   refine .inr ⟨by rw [hk];decide, ?_⟩
   obtain ⟨x,en⟩:=len1 hn
   obtain ⟨tk,ev⟩:=len1 hv
   refine ⟨tk,.leave x, ?_,by rw [ev];rfl, ?_⟩
   · obtain ⟨z,kd,l1,l2,z2⟩:=e
     simp only at hk en ev
     subst hk en ev
     rfl
   · trivial
 rw [if_neg hk] at hf
 clear hk
 by_cases hk:e.kind=kTake
 · rw [if_pos hk] at hf
   obtain ⟨rfl,rfl⟩:a=2∧b=3:=by
    have:=Option.some.inj hf
    exact ⟨(congrArg Prod.fst this).symm,(congrArg Prod.snd this).symm⟩
   refine .inr ⟨by rw [hk];decide, ?_⟩
   obtain ⟨p,t,en⟩:=len2 hn
   obtain ⟨tk,a,b,ev⟩:=len3 hv
   refine ⟨tk,.take p t a b, ?_,by rw [ev];rfl, ?_⟩
   · obtain ⟨z,kd,l1,l2,z2⟩:=e
     simp only at hk en ev
     subst hk en ev
     rfl
   · trivial
 rw [if_neg hk] at hf
 clear hk
 by_cases hk:e.kind=kProtect
 · rw [if_pos hk] at hf
   obtain ⟨rfl,rfl⟩:a=1∧b=1:=by
    have:=Option.some.inj hf
    exact ⟨(congrArg Prod.fst this).symm,(congrArg Prod.snd this).symm⟩
   refine .inr ⟨by rw [hk];decide, ?_⟩
   obtain ⟨p,en⟩:=len1 hn
   obtain ⟨tk,ev⟩:=len1 hv
   refine ⟨tk,.prot p, ?_,by rw [ev];rfl, ?_⟩
   · obtain ⟨z,kd,l1,l2,z2⟩:=e
     simp only at hk en ev
     subst hk en ev
     rfl
   · trivial
 rw [if_neg hk] at hf
 clear hk
 by_cases hk:e.kind=kClear
 · rw [if_pos hk] at hf
   obtain ⟨rfl,rfl⟩:a=1∧b=1:=by
    have:=Option.some.inj hf
    exact ⟨(congrArg Prod.fst this).symm,(congrArg Prod.snd this).symm⟩
   refine .inr ⟨by rw [hk];decide, ?_⟩
   obtain ⟨p,en⟩:=len1 hn
   obtain ⟨tk,ev⟩:=len1 hv
   refine ⟨tk,.clear p, ?_,by rw [ev];rfl, ?_⟩
   · obtain ⟨z,kd,l1,l2,z2⟩:=e
     simp only at hk en ev
     subst hk en ev
     rfl
   · trivial
 rw [if_neg hk] at hf
 clear hk
 by_cases hk:e.kind=kIn
 · rw [if_pos hk] at hf
   obtain ⟨rfl,rfl⟩:a=2∧b=1:=by
    have:=Option.some.inj hf
    exact ⟨(congrArg Prod.fst this).symm,(congrArg Prod.snd this).symm⟩
   refine .inr ⟨by rw [hk];decide, ?_⟩
   obtain ⟨m,p,en⟩:=len2 hn
   obtain ⟨tk,ev⟩:=len1 hv
   refine ⟨tk,.into m p, ?_,by rw [ev];rfl, ?_⟩
   · obtain ⟨z,kd,l1,l2,z2⟩:=e
     simp only at hk en ev
     subst hk en ev
     rfl
   · trivial
 rw [if_neg hk] at hf
 clear hk
 by_cases hk:e.kind=kOut
 · rw [if_pos hk] at hf
   obtain ⟨rfl,rfl⟩:a=1∧b=1:=by
    have:=Option.some.inj hf
    exact ⟨(congrArg Prod.fst this).symm,(congrArg Prod.snd this).symm⟩
   refine .inr ⟨by rw [hk];decide, ?_⟩
   obtain ⟨m,en⟩:=len1 hn
   obtain ⟨tk,ev⟩:=len1 hv
   refine ⟨tk,.out m, ?_,by rw [ev];rfl, ?_⟩
   · obtain ⟨z,kd,l1,l2,z2⟩:=e
     simp only at hk en ev
     subst hk en ev
     rfl
   · trivial
 rw [if_neg hk] at hf
 clear hk
 by_cases hk:e.kind=kStaff
 · rw [if_pos hk] at hf
   obtain ⟨rfl,rfl⟩:a=1∧b=2:=by
    have:=Option.some.inj hf
    exact ⟨(congrArg Prod.fst this).symm,(congrArg Prod.snd this).symm⟩
   refine .inr ⟨by rw [hk];decide, ?_⟩
   obtain ⟨p,en⟩:=len1 hn
   obtain ⟨tk,v,ev⟩:=len2 hv
   refine ⟨tk,.staff p v, ?_,by rw [ev];rfl, ?_⟩
   · obtain ⟨z,kd,l1,l2,z2⟩:=e
     simp only at hk en ev
     subst hk en ev
     rfl
   · trivial
 rw [if_neg hk] at hf
 clear hk
 by_cases hk:e.kind=kOff
 · rw [if_pos hk] at hf
   obtain ⟨rfl,rfl⟩:a=1∧b=2:=by
    have:=Option.some.inj hf
    exact ⟨(congrArg Prod.fst this).symm,(congrArg Prod.snd this).symm⟩
   refine .inr ⟨by rw [hk];decide, ?_⟩
   obtain ⟨p,en⟩:=len1 hn
   obtain ⟨tk,v,ev⟩:=len2 hv
   refine ⟨tk,.off p v, ?_,by rw [ev];rfl, ?_⟩
   · obtain ⟨z,kd,l1,l2,z2⟩:=e
     simp only at hk en ev
     subst hk en ev
     rfl
   · trivial
 rw [if_neg hk] at hf
 clear hk
 by_cases hk:e.kind=kOpen
 · rw [if_pos hk] at hf
   obtain ⟨rfl,rfl⟩:a=1∧b=1:=by
    have:=Option.some.inj hf
    exact ⟨(congrArg Prod.fst this).symm,(congrArg Prod.snd this).symm⟩
   refine .inr ⟨by rw [hk];decide, ?_⟩
   obtain ⟨p,en⟩:=len1 hn
   obtain ⟨tk,ev⟩:=len1 hv
   refine ⟨tk,.opn p, ?_,by rw [ev];rfl, ?_⟩
   · obtain ⟨z,kd,l1,l2,z2⟩:=e
     simp only at hk en ev
     subst hk en ev
     rfl
   · trivial
 rw [if_neg hk] at hf
 clear hk
 by_cases hk:e.kind=kClose
 · rw [if_pos hk] at hf
   obtain ⟨rfl,rfl⟩:a=1∧b=2:=by
    have:=Option.some.inj hf
    exact ⟨(congrArg Prod.fst this).symm,(congrArg Prod.snd this).symm⟩
   refine .inr ⟨by rw [hk];decide, ?_⟩
   obtain ⟨p,en⟩:=len1 hn
   obtain ⟨tk,v,ev⟩:=len2 hv
   refine ⟨tk,.close p v, ?_,by rw [ev];rfl, ?_⟩
   · obtain ⟨z,kd,l1,l2,z2⟩:=e
     simp only at hk en ev
     subst hk en ev
     rfl
   · trivial
 rw [if_neg hk] at hf
 clear hk
 by_cases hk:e.kind=kReturn
 · rw [if_pos hk] at hf
   obtain ⟨rfl,rfl⟩:a=1∧b=1:=by
    have:=Option.some.inj hf
    exact ⟨(congrArg Prod.fst this).symm,(congrArg Prod.snd this).symm⟩
   refine .inr ⟨by rw [hk];decide, ?_⟩
   obtain ⟨p,en⟩:=len1 hn
   obtain ⟨tk,ev⟩:=len1 hv
   refine ⟨tk,.ret p, ?_,by rw [ev];rfl, ?_⟩
   · obtain ⟨z,kd,l1,l2,z2⟩:=e
     simp only at hk en ev
     subst hk en ev
     rfl
   · trivial
 rw [if_neg hk] at hf
 clear hk
 by_cases hk:e.kind=kRaise
 · rw [if_pos hk] at hf
   obtain ⟨rfl,rfl⟩:a=1∧b=2:=by
    have:=Option.some.inj hf
    exact ⟨(congrArg Prod.fst this).symm,(congrArg Prod.snd this).symm⟩
   refine .inr ⟨by rw [hk];decide, ?_⟩
   obtain ⟨p,en⟩:=len1 hn
   obtain ⟨tk,v,ev⟩:=len2 hv
   refine ⟨tk,.raise p v, ?_,by rw [ev];rfl, ?_⟩
   · obtain ⟨z,kd,l1,l2,z2⟩:=e
     simp only at hk en ev
     subst hk en ev
     rfl
   · trivial
 rw [if_neg hk] at hf
 clear hk
 by_cases hk:e.kind=kUndo
 · rw [if_pos hk] at hf
   obtain ⟨rfl,rfl⟩:a=0∧b=0:=by
    have:=Option.some.inj hf
    exact ⟨(congrArg Prod.fst this).symm,(congrArg Prod.snd this).symm⟩
   exact .inl ⟨hk,List.length_eq_zero_iff.1 hn,List.length_eq_zero_iff.1 hv⟩
 rw [if_neg hk] at hf
 clear hk
 cases hf
structure Jn where
 cs:List Ev
 reg:Reg
deriving DecidableEq,Inhabited
def zJn:Jn:=⟨[],zReg⟩
def doE (r:Reg) (e:Ev):Reg:=match actE e with
 | some (tk,a)=>doA r tk a
 | none=>r
def regOf (cs:List Ev):Reg:=cs.foldl doE zReg
def accJ (j:Jn) (n:Nat) (e:Ev):Int:=if e.num ≠ (n:Int)+1 then 11 else if e.kind=kUndo then (match j.cs.getLast? with
    | none=>12
    | some l=>if l.kind=kEnter∨l.kind=kReturn then 21 else 0) else match actE e with
 | some (tk,a)=>okA j.reg tk a
 | none=>0
def addJ (j:Jn) (e:Ev):Jn:=if e.kind=kUndo then ⟨j.cs.dropLast,regOf j.cs.dropLast⟩ else ⟨j.cs++[e],doE j.reg e⟩
def wrongJ (j:Jn) (n:Nat) (e:Ev):Int:=if chkE nm e ≠ 0 then chkE nm e else accJ j n e
def repJ:Jn→Nat→List Ev→Jn × Nat × Int
 | j,_,[]=>(j,0,0)
 | j,n,e::l=>if wrongJ nm j n e ≠ 0 then (j,n+1,wrongJ nm j n e) else repJ (addJ j e) (n+1) l
def acts (cs:List Ev):List TA:=cs.filterMap actE
structure JOk (j:Jn):Prop where
 reg:j.reg=regOf j.cs
 run:runO zReg (acts j.cs)=some j.reg
 chk:∀ e ∈ j.cs,chkE nm e=0∧e.kind ≠ kUndo
theorem jok_zero:JOk nm zJn:=⟨rfl,rfl,fun e h=>by cases h⟩
theorem regOf_snoc (cs:List Ev) (e:Ev):regOf (cs++[e])=doE (regOf cs) e:=by
 unfold regOf
 rw [List.foldl_append];rfl
theorem acts_snoc {cs:List Ev} {e:Ev} {x:TA} (h:actE e=some x):acts (cs++[e])=acts cs++[x]:=by
 unfold acts
 rw [List.filterMap_append]
 simp [h]
theorem jok_add {j:Jn} {n:Nat} {e:Ev} (J:JOk nm j) (h:wrongJ nm j n e=0):JOk nm (addJ j e):=by
 unfold wrongJ at h
 split at h
 · rename_i h1
   exact absurd h h1
 rename_i h1
 have h1:chkE nm e=0:=Decidable.byContradiction h1
 unfold accJ at h
 split at h
 · cases h
 rcases chk_act nm h1 with ⟨hk,_⟩ | ⟨hk,tk,a,ha,_⟩
 · rw [if_pos hk] at h
   unfold addJ
   rw [if_pos hk]
   have hsub:∀ e ∈ j.cs.dropLast,e ∈ j.cs:=fun e he=>List.dropLast_subset _ he
   refine ⟨rfl, ?_,fun e he=>J.chk e (hsub e he)⟩
   cases hl:j.cs.getLast? with
   | none=>rw [hl] at h;cases h
   | some l =>
     have hne:j.cs ≠ []:=fun h0=>by rw [h0] at hl;cases hl
     have hcs:j.cs=j.cs.dropLast++[j.cs.getLast hne]:=(List.dropLast_concat_getLast hne).symm
     have hm:j.cs.getLast hne ∈ j.cs:=List.getLast_mem hne
     obtain ⟨hc,hu⟩:=J.chk _ hm
     rcases chk_act nm hc with ⟨hk',_⟩ | ⟨_,tk,a,ha,_⟩
     · exact absurd hk' hu
     have hr:=J.run
     rw [hcs,acts_snoc ha,run_app] at hr
     cases hp:runO zReg (acts j.cs.dropLast) with
     | none=>rw [hp] at hr;cases hr
     | some r' =>
       show some r'=some (regOf j.cs.dropLast)
       have:∀ (cs:List Ev) (r r':Reg),(∀ e ∈ cs,chkE nm e=0∧e.kind ≠ kUndo)→runO r (acts cs)=some r'→cs.foldl doE r=r':=fun cs=>by
        induction cs with
        | nil=>intro r r' _ h;cases h;rfl
        | cons x l ih =>
          intro r r' hx h
          obtain ⟨hc,hu⟩:=hx x (by simp)
          rcases chk_act nm hc with ⟨hk',_⟩ | ⟨_,tk,a,ha,_⟩
          · exact absurd hk' hu
          have e1:acts (x::l)=(tk,a)::acts l:=by
           unfold acts
           rw [List.filterMap_cons,ha]
          rw [e1] at h
          obtain ⟨h1,h2⟩:=run_cons h
          have e2:doE r x=doA r tk a:=by unfold doE;rw [ha]
          rw [List.foldl_cons,e2]
          exact ih _ _ (fun e he=>hx e (by simp [he])) h2
       unfold regOf
       rw [this _ _ _ (fun e he=>J.chk e (hsub e he)) hp]
 · rw [if_neg hk,ha] at h
   have h:okA j.reg tk a=0:=h
   have e2:doE j.reg e=doA j.reg tk a:=by unfold doE;rw [ha]
   unfold addJ
   rw [if_neg hk]
   refine ⟨?_, ?_,fun x hx => ?_⟩
   · show doE j.reg e=regOf (j.cs++[e])
     rw [regOf_snoc,← J.reg]
   · show runO zReg (acts (j.cs++[e]))=some (doE j.reg e)
     rw [acts_snoc ha,run_app,J.run]
     show runO j.reg [(tk,a)]=_
     rw [run_ok h,e2];rfl
   · rcases mem_snoc hx with hx | rfl
     · exact J.chk x hx
     · exact ⟨h1,hk⟩
theorem jok_rep:∀ {l:List Ev} {j:Jn} {n:Nat},JOk nm j→JOk nm (repJ nm j n l).1
 | [],j,n,J=>J
 | e::l,j,n,J=>by
   unfold repJ
   split
   · exact J
   · rename_i h
     exact jok_rep (jok_add nm J (Decidable.byContradiction h))
theorem rep_app:∀ (l m:List Ev) (j:Jn) (n:Nat),(repJ nm j n l).2.2=0→repJ nm j n (l++m)=repJ nm (repJ nm j n l).1 (n+l.length) m
 | [],m,j,n,_=>rfl
 | e::l,m,j,n,h=>by
   unfold repJ at h
   split at h
   · rename_i hw
     exact absurd h hw
   rename_i hw
   have ih:=rep_app l m (addJ j e) (n+1) h
   have e1:repJ nm j n (e::l++m)=repJ nm (addJ j e) (n+1) (l++m):=by
    rw [List.cons_append]
    show (if wrongJ nm j n e ≠ 0 then _ else _)=_
    rw [if_neg hw]
   have e2:repJ nm j n (e::l)=repJ nm (addJ j e) (n+1) l:=by
    show (if wrongJ nm j n e ≠ 0 then _ else _)=_
    rw [if_neg hw]
   rw [e1,e2,ih,List.length_cons]
   congr 1
   omega
theorem jok_inv {j:Jn} (J:JOk nm j):Inv j.reg∧Safe j.reg:=run_safe inv_zero safe_zero J.run
end Go.Sim.Pos

namespace Go.Sim.Pos
variable (nm:Nm→Bool)
def tickE (e:Ev):Int:=e.vals.head?.getD 0
theorem good_act {e:Ev} (h1:chkE nm e=0) (h2:e.kind ≠ kUndo):∃ a,actE e=some (tickE e,a):=by
 rcases chk_act nm h1 with ⟨hk,_⟩ | ⟨_,tk,a,ha,hh,_⟩
 · exact absurd hk h2
 · refine ⟨a, ?_⟩
   unfold tickE
   rw [hh];exact ha
end Go.Sim.Pos

namespace Go.Sim.Pos
def idxN {α:Type} (nm:α→Nm) (x:Nm):List α→Option Nat
 | []=>none
 | a::l=>if nm a=x then some 0 else (idxN nm x l).map (· + 1)
theorem idxN_some {α:Type} {nm:α→Nm} {x:Nm}:∀ {l:List α} {i:Nat},idxN nm x l=some i → ∃ y,l[i]? = some y∧nm y=x∧(l.find? fun z=>decide (nm z=x))=some y∧i < l.length
 | [],i,h=>by cases h
 | a::l,i,h=>by
   unfold idxN at h
   by_cases ha:nm a=x
   · rw [if_pos ha] at h
     cases h
     exact ⟨a,rfl,ha,by rw [List.find?_cons];simp [ha],by simp⟩
   · rw [if_neg ha] at h
     cases hi:idxN nm x l with
     | none=>rw [hi] at h;cases h
     | some k =>
       rw [hi] at h
       have h:i=k+1:=(Option.some.inj h).symm
       subst h
       obtain ⟨y,h1,h2,h3,h4⟩:=idxN_some hi
       exact ⟨y,by simpa using h1,h2,by rw [List.find?_cons];simp [ha,h3],by simp;omega⟩
theorem idxN_none {α:Type} {nm:α→Nm} {x:Nm}:∀ {l:List α},idxN nm x l=none→(l.find? fun z=>decide (nm z=x))=none
 | [],_=>rfl
 | a::l,h=>by
   unfold idxN at h
   by_cases ha:nm a=x
   · rw [if_pos ha] at h;cases h
   · rw [if_neg ha] at h
     cases hi:idxN nm x l with
     | none=>rw [List.find?_cons];simp [ha,idxN_none hi]
     | some k=>rw [hi] at h;cases h
theorem idxN_find {α:Type} {nm:α→Nm} {x:Nm} {l:List α} {y:α} (h:(l.find? fun z=>decide (nm z=x))=some y):∃ i,idxN nm x l=some i∧l[i]? = some y∧i < l.length:=by
 cases hi:idxN nm x l with
 | none=>rw [idxN_none hi] at h;cases h
 | some i =>
   obtain ⟨z,h1,_,h3,h4⟩:=idxN_some hi
   rw [h] at h3
   cases h3
   exact ⟨i,rfl,h1,h4⟩
theorem set_upd {α:Type} {nm:α→Nm} {g:α→α}:∀ {l:List α} {i:Nat} {y:α},Uniq nm l→l[i]? = some y→l.set i (g y)=l.map fun z=>if nm z=nm y then g z else z
 | [],i,y,_,h=>by simp at h
 | a::l,0,y,u,h=>by
   have h:a=y:=by simpa using h
   subst h
   unfold Uniq at u
   rw [List.map_cons,List.nodup_cons] at u
   rw [List.set_cons_zero,List.map_cons,if_pos rfl]
   congr 1
   refine (map_id_on fun z hz => ?_).symm
   rw [if_neg]
   intro he
   exact u.1 (he ▸ List.mem_map_of_mem hz)
 | a::l,i+1,y,u,h=>by
   have h:l[i]? = some y:=by simpa using h
   have hm:=List.mem_of_getElem? h
   unfold Uniq at u
   rw [List.map_cons,List.nodup_cons] at u
   rw [List.set_cons_succ,List.map_cons,if_neg,set_upd (nm:=nm) u.2 h]
   intro he
   exact u.1 (he ▸ List.mem_map_of_mem hm)
end Go.Sim.Pos

namespace Go.Sim.Pos
variable (nm:Nm→Bool)
def Act.fresh:Act→Option Nm
 | .track t _=>some t
 | .fault f _ _ _ _=>some f
 | .enter x _ _=>some x
 | .take p _ _ _=>some p
 | .into m _=>some m
 | _=>none
end Go.Sim.Pos

namespace Go.Sim.Pos
variable (nm:Nm→Bool)
theorem chk_more {e:Ev} (h:chkE nm e=0) {tk:Int} {a:Act} (ha:actE e=some (tk,a)):0≤tk∧tk≤999999999∧(∀ x,a.fresh=some x→nm x=true)∧a.nn:=by
 obtain ⟨_,_,_,_,_,hnm,hv,_⟩:=chk_form nm h
 rcases chk_act nm h with ⟨hk,hn,_⟩ | ⟨_,tk',a',ha',hh,hnn⟩
 · unfold actE at ha
   rw [hk] at ha
   rw [if_neg (by decide),if_neg (by decide),if_neg (by decide),if_neg (by decide),if_neg (by decide),if_neg (by decide),if_neg (by decide),if_neg (by decide),if_neg (by decide),if_neg (by decide),if_neg (by decide),if_neg (by decide),if_neg (by decide),if_neg (by decide),if_neg (by decide),if_neg (by decide),if_neg (by decide)] at ha
   cases ha
 · rw [ha'] at ha
   cases ha
   have htm:tk ∈ e.vals:=List.mem_of_head? hh
   have ht:=hv tk htm
   refine ⟨ht.1,ht.2,fun x hx => ?_,hnn⟩
   have key:e.names.head? = some x:=by
    clear htm ht hnn hh h hv hnm
    unfold actE at ha'
    have go:∀ {p:Prop} [Decidable p] {u v:Option TA},(if p then u else v)=some (tk,a)→u=some (tk,a)∨v=some (tk,a):=fun {p} _ {u v} h=>by
     split at h
     · exact .inl h
     · exact .inr h
    iterate 17
     rcases go ha' with hu | ha'
     · split at hu
       · rename_i e1 e2
         cases hu
         first
          | (cases hx;done)
          | (have:=Option.some.inj hx
             subst this
             rw [e1];rfl)
       · cases hu
    cases ha'
   exact hnm x (List.mem_of_head? key)
end Go.Sim.Pos

namespace Go.Sim.Pos
open Go.Sim
def Len (sz:Nat) (rows:List (List AV)):Prop:=∀ r ∈ rows,r.length=sz
theorem flat_len {sz:Nat}:∀ {rows:List (List AV)},Len sz rows→rows.flatten.length=rows.length * sz
 | [],_=>by simp
 | r::l,h=>by
   have ih:=flat_len (rows:=l) fun x hx=>h x (by simp [hx])
   rw [List.flatten_cons,List.length_append,ih,h r (by simp),List.length_cons,Nat.succ_mul];omega
theorem flat_drop {sz:Nat}:∀ {rows:List (List AV)} (i:Nat),Len sz rows→rows.flatten.drop (i * sz)=(rows.drop i).flatten
 | [],i,_=>by simp
 | r::l,0,_=>by simp
 | r::l,i+1,h=>by
   have ih:=flat_drop (rows:=l) i fun x hx=>h x (by simp [hx])
   have hr:=h r (by simp)
   rw [List.drop_succ_cons,← ih,List.flatten_cons,Nat.succ_mul,Nat.add_comm,← hr,← List.drop_drop]
   rw [List.drop_left]
theorem flat_take {sz:Nat}:∀ {rows:List (List AV)} (i:Nat),Len sz rows→rows.flatten.take (i * sz)=(rows.take i).flatten
 | [],i,_=>by simp
 | r::l,0,_=>by simp
 | r::l,i+1,h=>by
   have ih:=flat_take (rows:=l) i fun x hx=>h x (by simp [hx])
   have hr:=h r (by simp)
   rw [List.take_succ_cons,List.flatten_cons,List.flatten_cons,← ih,List.take_append,Nat.succ_mul,hr]
   have h1:r.take (i * sz+sz)=r:=List.take_of_length_le (by omega)
   rw [h1,Nat.add_sub_cancel]
theorem flat_at {sz i:Nat} {rows:List (List AV)} {r:List AV} (h:Len sz rows) (hi:rows[i]? = some r):sub? rows.flatten (i * sz) sz=some r:=by
 obtain ⟨hlt,he⟩:=List.getElem?_eq_some_iff.1 hi
 have hr:=h r (List.mem_of_getElem? hi)
 unfold sub?
 rw [flat_len h,if_pos,flat_drop i h,List.drop_eq_getElem_cons hlt,he,List.flatten_cons]
 · rw [List.take_append_of_le_length (by omega),List.take_of_length_le (by omega)]
 · have:(i+1) * sz≤rows.length * sz:=Nat.mul_le_mul_right _ hlt
   rw [Nat.succ_mul] at this
   exact this
theorem flat_cell {sz i k:Nat} {rows:List (List AV)} {r:List AV} {v:AV} (h:Len sz rows) (hi:rows[i]? = some r) (hk:r[k]? = some v):sub? rows.flatten (i * sz+k) 1=some [v]:=by
 obtain ⟨hlt,he⟩:=List.getElem?_eq_some_iff.1 hi
 obtain ⟨hkl,hke⟩:=List.getElem?_eq_some_iff.1 hk
 have hr:=h r (List.mem_of_getElem? hi)
 have hm:(i+1) * sz≤rows.length * sz:=Nat.mul_le_mul_right _ hlt
 rw [Nat.succ_mul] at hm
 unfold sub?
 rw [flat_len h,if_pos (by omega),← List.drop_drop,flat_drop i h,List.drop_eq_getElem_cons hlt,he,List.flatten_cons,List.drop_append_of_le_length (by omega),List.drop_eq_getElem_cons hkl,hke]
 rfl
theorem flat_set {sz i k:Nat} {rows:List (List AV)} {r:List AV} {v:AV} (h:Len sz rows) (hi:rows[i]? = some r) (hk:k < sz):Go.Sim.over rows.flatten (i * sz+k) [v]=(rows.set i (r.set k v)).flatten:=by
 obtain ⟨hlt,he⟩:=List.getElem?_eq_some_iff.1 hi
 have hr:=h r (List.mem_of_getElem? hi)
 have e1:rows=rows.take i++r::rows.drop (i+1):=by
  rw [← he,← List.drop_eq_getElem_cons hlt,List.take_append_drop]
 have e2:rows.set i (r.set k v)=rows.take i++r.set k v::rows.drop (i+1):=by
  rw [List.set_eq_take_append_cons_drop,if_pos hlt]
 have hp:(rows.take i).flatten.length=i * sz:=by
  rw [flat_len (sz:=sz) (fun x hx=>h x (List.mem_of_mem_take hx)),List.length_take]
  congr 1;omega
 have e3:rows.flatten=(rows.take i).flatten++(r++(rows.drop (i+1)).flatten):=by
  conv=>lhs;rw [e1]
  rw [List.flatten_append,List.flatten_cons]
 rw [e2,e3,List.flatten_append,List.flatten_cons]
 unfold Go.Sim.over
 rw [← hp,List.take_length_add_append,List.take_append_of_le_length (by omega)]
 have:(rows.take i).flatten.length+k+[v].length=(rows.take i).flatten.length+(k+1):=by simp;omega
 rw [this,List.drop_length_add_append,List.drop_append_of_le_length (by omega),List.set_eq_take_append_cons_drop,if_pos (by omega)]
 simp
def SV (sz:Nat) (te:TypeId) (H:Heap) (v:AV) (rows:List (List AV)):Prop:=(rows=[]∧v=.ps .nil []) ∨ ∃ id cs m,v=.rs id 0 rows.length sz none∧id < H.n∧H.get id=.row (rows.flatten++cs) sz te∧cs.length=m * sz
theorem SV.keep {sz:Nat} {te:TypeId} {H H':Heap} {v:AV} {rows:List (List AV)} (h:SV sz te H v rows) (hn:H.n≤H'.n) (hg:∀ i,i < H.n→v=.rs i 0 rows.length sz none→H'.get i=H.get i):SV sz te H' v rows:=by
 rcases h with h | ⟨id,cs,m,h1,h2,h3,h4⟩
 · exact .inl h
 · exact .inr ⟨id,cs,m,h1,by omega,by rw [hg id h2 h1];exact h3,h4⟩
theorem over_app {A B r:List AV}:Go.Sim.over (A++B) A.length r=(A++r)++B.drop r.length:=by
 unfold Go.Sim.over
 rw [List.take_left' rfl,List.drop_length_add_append]
theorem appSV {sz:Nat} {te:TypeId} {H:Heap} {v:AV} {rows:List (List AV)} (r:List AV) (h:SV sz te H v rows) (hL:Len sz rows) (hr:r.length=sz) (ho:r.all AV.one=true) (hs:0 < sz) (hm:rows.length+1≤maxRows) :
 ∃ v' H',appR 0 H sz te v [r]=some (v',H')∧SV sz te H' v' (rows++[r])∧H.n≤H'.n ∧ ∀ i,i < H.n→v ≠ .rs i 0 rows.length sz none→H'.get i=H.get i:=by
 have hf:=flat_len hL
 rcases h with ⟨rfl,rfl⟩ | ⟨id,cs,m,rfl,h2,h3,h4⟩
 · refine ⟨.rs H.n 0 1 sz none,H.push (.row r sz te), ?_,.inr ⟨H.n,[],0,rfl,by simp,by rw [Heap.get_push,if_pos rfl];simp,by simp⟩,by simp,fun i hi _=>by rw [Heap.get_push,if_neg (by omega)]⟩
   unfold appR
   simp only [Tok.full,List.length_nil,Nat.zero_add,List.length_cons,List.all_cons,ho,List.all_nil,hs,decide_true,Bool.and_true,Bool.true_and]
   rw [if_pos (by simpa using hm)]
   simp
 · by_cases hc:m=0
   · subst hc
     have hcs:cs=[]:=List.length_eq_zero_iff.1 (by omega)
     subst hcs
     rw [List.append_nil] at h3
     refine ⟨.rs H.n 0 (rows.length+1) sz none,(H.set id .dead).push (.row (rows++[r]).flatten sz te), ?_,.inr ⟨H.n,[],0,by simp,by simp,by rw [Heap.get_push,if_pos (by simp)];simp,by simp⟩,by simp,fun i hi hne => ?_⟩
     · unfold appR
       simp only [List.length_cons,List.length_nil,Nat.zero_add,List.all_cons,ho,List.all_nil,hs,decide_true,Bool.and_true,Nat.zero_le,Option.isNone_none,h3,hf,if_true]
       rw [if_pos (by simpa using hm)]
       simp
     · rw [Heap.get_push,if_neg (by simp;omega),Heap.get_set,if_neg (fun he=>hne (by rw [he]))]
   · have hm1:sz≤cs.length:=by
      rw [h4]
      calc sz=1 * sz:=(Nat.one_mul _).symm
       _≤m * sz:=Nat.mul_le_mul_right _ (by omega)
     have hov:=over_app (A:=rows.flatten) (B:=cs) (r:=r)
     rw [hf] at hov
     refine ⟨.rs id 0 (rows.length+1) sz none,H.set id (.row ((rows++[r]).flatten++cs.drop sz) sz te), ?_,.inr ⟨id,cs.drop sz,m - 1,by simp,by simpa using h2,by rw [Heap.get_set,if_pos rfl],by rw [List.length_drop,h4,Nat.sub_mul];omega⟩,by simp,fun i hi hne=>by rw [Heap.get_set,if_neg (fun he=>hne (by rw [he]))]⟩
     unfold appR
     have c1:¬ (0+rows.length * sz=(rows.flatten++cs).length):=by rw [List.length_append,hf];omega
     have c2:0+(rows.length+1) * sz≤(rows.flatten++cs).length:=by rw [List.length_append,hf,Nat.succ_mul];omega
     simp only [List.length_cons,List.length_nil,Nat.zero_add,List.all_cons,ho,List.all_nil,hs,decide_true,Bool.and_true,Nat.zero_le,Option.isNone_none,h3,if_true]
     rw [if_pos (by simpa using hm)]
     have c1':¬ (rows.length * sz=(rows.flatten++cs).length):=by rw [List.length_append,hf];omega
     have c2':(rows.length+1) * sz≤(rows.flatten++cs).length:=by rw [List.length_append,hf,Nat.succ_mul];omega
     simp only [c1',c2',decide_true,decide_false,Bool.and_false,Bool.and_true,Bool.false_eq_true,if_false,if_true]
     have:[r].flatten=r:=by simp
     rw [this,hov,hr]
     simp
end Go.Sim.Pos

namespace Go.Sim
open Go Go.Proofs
open Go.Sim.Pos (Nm Trk Flt Trn Pos Mch Reg Ev)
abbrev i64 (n:Int):AV:=.int .i64 n
def strs (l:List Nm):List (List AV):=l.map fun x=>[.str x]
def ints (l:List Int):List (List AV):=l.map fun x=>[i64 x]
end Go.Sim
namespace Go.Sim.Pos
open Go.Sim
def Trk.row (x:Trk):List AV:=[.str x.name,i64 x.speed]
def Flt.row (x:Flt):List AV:=[.str x.name,.str x.track,i64 x.frm,i64 x.to,i64 x.speed,.bool x.ans,.bool x.rep]
def Trn.row (x:Trn):List AV:=[.str x.name,.str x.track,i64 x.speed]
def Pos.row (x:Pos):List AV:=[.str x.name,.str x.track,i64 x.frm,i64 x.to,.bool x.ret,.bool x.prot,.bool x.opn,i64 x.closed,i64 x.pers,i64 x.speed]
def Mch.row (x:Mch):List AV:=[.str x.name,.str x.poss]
def Ev.row (e:Ev):List AV:=[i64 e.num,.str e.kind,.ps .unk (strs e.names),.ps .unk (ints e.vals),.str e.text]
theorem Trk.row_inj (a b:Trk):(a.row=b.row)=(a=b):=by
 cases a;cases b;simp [Trk.row]
theorem Flt.row_inj (a b:Flt):(a.row=b.row)=(a=b):=by
 cases a;cases b;simp [Flt.row]
theorem Trn.row_inj (a b:Trn):(a.row=b.row)=(a=b):=by
 cases a;cases b;simp [Trn.row]
theorem Pos.row_inj (a b:Pos):(a.row=b.row)=(a=b):=by
 cases a;cases b;simp [Pos.row]
theorem Mch.row_inj (a b:Mch):(a.row=b.row)=(a=b):=by
 cases a;cases b;simp [Mch.row]
end Go.Sim.Pos
namespace Go.Sim
open Go Go.Proofs
open Go.Sim.Pos (Nm Trk Flt Trn Pos Mch Reg Ev)
open Classical in
noncomputable def primOf {α:Type} (enc:α→List AV) (pre:α→Prop) (spec:α→AV):List AV→Option AV:=fun args =>
 if h:∃ x,enc x=args∧pre x then some (spec h.choose) else none
theorem primOf_inv {α:Type} {enc:α→List AV} {pre:α→Prop} {spec:α→AV} {args:List AV} {v:AV} (h:primOf enc pre spec args=some v):∃ x,args=enc x∧pre x∧v=spec x:=by
 unfold primOf at h
 split at h
 · rename_i hx
   simp at h
   exact ⟨hx.choose,hx.choose_spec.1.symm,hx.choose_spec.2,h.symm⟩
 · cases h
theorem primOf_enc {α:Type} {enc:α→List AV} {pre:α→Prop} {spec:α→AV} (hi:∀ x y,enc x=enc y→x=y) (x:α) (hp:pre x):primOf enc pre spec (enc x)=some (spec x):=by
 unfold primOf
 have hx:∃ y,enc y=enc x∧pre y:=⟨x,rfl,hp⟩
 rw [dif_pos hx]
 rw [hi _ _ hx.choose_spec.1]
def firstI:List Int→Int
 | []=>0
 | e::r=>if e=0 then firstI r else e
theorem withPrims_P (P:FuncId→Option (List AV→Option AV)):(NC.withPrims P).P=NC.P:=rfl
theorem frzP (P:FuncId→Option (List AV→Option AV)) (f:FuncId) (t:TypeId):(NC.withPrims P).frz f t=false:=Eq.trans rfl rfl
theorem litP (P:FuncId→Option (List AV→Option AV)) (f:FuncId) (t:TypeId):(NC.withPrims P).lit f t=false:=Eq.trans rfl rfl
def whenI (b:Bool) (e:Int):Int:=if b then e else 0
theorem map_inj {α β:Type} {f:α→β} (h:∀ a b,f a=f b→a=b):∀ {l m:List α},l.map f=m.map f→l=m
 | [],[],_=>rfl
 | [],_::_,e=>by simp at e
 | _::_,[],e=>by simp at e
 | a::l,b::m,e=>by
   simp only [List.map_cons,List.cons.injEq] at e
   rw [h a b e.1,map_inj h e.2]
theorem strs_inj (a b:List Nm):(strs a=strs b)=(a=b):=by
 simp only [eq_iff_iff]
 exact ⟨fun h=>map_inj (fun x y h=>by simpa using h) h,fun h=>by rw [h]⟩
theorem ints_inj (a b:List Int):(ints a=ints b)=(a=b):=by
 simp only [eq_iff_iff]
 exact ⟨fun h=>map_inj (fun x y h=>by simpa using h) h,fun h=>by rw [h]⟩
theorem Pos.Ev.row_inj (a b:Ev):(a.row=b.row)=(a=b):=by
 cases a;cases b;simp [Pos.Ev.row,strs_inj,ints_inj]
theorem strs_len (l:List Nm):(strs l).length=l.length:=by simp [strs]
theorem ints_len (l:List Int):(ints l).length=l.length:=by simp [ints]
theorem strs_at {l:List Nm} {i:Nat} {x:Nm} (h:l[i]? = some x):(strs l)[i]? = some [.str x]:=by
 unfold strs;rw [List.getElem?_map,h];rfl
theorem ints_at {l:List Int} {i:Nat} {x:Int} (h:l[i]? = some x):(ints l)[i]? = some [i64 x]:=by
 unfold ints;rw [List.getElem?_map,h];rfl
theorem strs_all (l:List Nm):(strs l).all (fun r=>decide (r.length=1))=true:=by
 unfold strs;rw [List.all_map];simp
theorem ints_all (l:List Int):(ints l).all (fun r=>decide (r.length=1))=true:=by
 unfold ints;rw [List.all_map];simp
theorem drop_at {α:Type} {l:List α} {k:Nat} {x:α} (h:l[k]? = some x):l.drop k=x::l.drop (k+1):=by
 have hlt:=(List.getElem?_eq_some_iff.1 h).1
 rw [List.drop_eq_getElem_cons hlt,(List.getElem?_eq_some_iff.1 h).2]
theorem map_at {α β:Type} {f:α→β} {l:List α} {k:Nat} {x:α} (h:l[k]? = some x):(l.map f)[k]? = some (f x):=by simp [h]
theorem take_map {α β:Type} {f:α→β} {l:List α} {k:Nat} {x:α} (h:l[k]? = some x):(l.take (k+1)).map f=(l.take k).map f++[f x]:=by
 rw [List.take_add_one,h];simp
theorem rows_all {α:Type} {f:α→List AV} {sz:Nat} (hf:∀ x,(f x).length=sz) (l:List α):(l.map f).all (fun r=>decide (r.length=sz))=true:=by
 rw [List.all_eq_true]
 intro r hr
 obtain ⟨x,_,rfl⟩:=List.mem_map.1 hr
 simp [hf x]
end Go.Sim

namespace Go.Sim
open Go Go.Proofs
attribute [go_sem ↓] W_seq W_block W_region W_draw draw_nil draw_data draw_load draw_read draw_fresh draw_writeAt draw_write draw_guard
attribute [go_sem ↓] okO_false W_skip W_cond W_ret W_exit next_nrm next_ret next_ext shut_nrm shut_ret shut_ext branch_true
attribute [go_sem ↓] branch_false WO_some VO_some AO_some OO_some aops_op aops_guard dstG_some aops_nil op_move op_assign op_pick
attribute [go_sem ↓] pickO_true pickO_false op_alloc op_box op_load op_store op_bin op_un op_conv op_build op_buildSlice op_makeFunc
attribute [go_sem ↓] op_makeMap op_fieldAddr op_field op_indexAddr op_index op_range op_next op_lookup op_mapUpdate op_extract op_len op_append
attribute [go_sem ↓] op_callF op_callT fnO_fn fnO_yld op_slice op_max2 op_min2 op_max3 guardO_tt guardO_tf guardO_ff guardO_ft
attribute [go_sem ↓] guardO_undef
attribute [go_sem] clashes_nil clashes_none clashes_some acc_load acc_read acc_store acc_fresh acc_mapUpdate accM_map acc_append accS_tok accS_nil
attribute [go_sem] accS_exact accS_rs accP_rd accP_wr accP_pptr record_some record_none apart_rw apart_wr apart_aw apart_wa List.any_cons
attribute [go_sem] List.any_nil List.contains_cons List.contains_nil Bool.not_eq_true' backH_zero backH_s below_load below_callF below_len below_lookup belowL_nil belowL_cons
attribute [go_sem] belowO under_int under_bool under_str under_unk under_nil under_exact under_agg under_map under_ptr under_fn underAll_nil
attribute [go_sem] underAll_cons blt_dec pure_int pure_bool pure_str pure_unk pure_nil abuildSlice rowsOf Option.isSome_some afill dstOf
attribute [go_sem] putT_some putT_none frzP litP withPrims_P arange anext evalOpt_none evalOpt_some amax_int amin_int amax3_int
attribute [go_sem] tupO_tup evalO_tmp evalO_int evalO_bool evalO_func evalO_nils evalOs_nil evalOs_cons evalParts_nil evalParts_cons getT_setT Heap.get_set
attribute [go_sem] Heap.get_push hn_set hn_push Nat.lt_add_one Nat.add_zero Nat.zero_add Bool.false_eq_true if_true if_false ite_true ite_false and_true
attribute [go_sem] true_and and_self aload readCells blkCells sub? loadV alen abin aun_not kcode ibin
attribute [go_sem] ltI_iff eqI_iff List.length_cons List.length_nil List.drop_succ_cons List.drop_zero List.drop_nil List.take_succ_cons List.take_zero List.take_nil List.getElem?_cons_zero List.getElem?_cons_succ
attribute [go_sem] afield aindexAddr aindex part? natOf_cast natOf_0 natOf_1 decide_true decide_false AV.cells AV.one List.all_cons
attribute [go_sem] List.all_nil Bool.and_true Bool.true_and Bool.and_self astore setBlk over List.append_nil List.nil_append List.cons_append List.map_cons List.map_nil
attribute [go_sem] cond_true cond_false Nat.beq_refl not_true_eq_false not_false_eq_true i64 bodyPost shutMarks_nil ar_nil ar_tmp ar_cell empty_n
attribute [go_sem] argsT_nil argsT_cons AV.strip AV.strip0 Cls.chain or_true true_or Bool.not_true Bool.not_false Bool.or_true Bool.or_false Bool.true_or
attribute [go_sem] Bool.false_or Bool.and_false Bool.false_and Int.ofNat_lt cast0 eq_self List.length_map ofVal_v ofVal_H eqs_01 lts_01 eqs_02
attribute [go_sem] lts_02 eqs_03 lts_03 eqs_04 lts_04 eqs_10 eqs_12 lts_12 eqs_13 lts_13 eqs_14 lts_14
attribute [go_sem] eqs_20 eqs_21 eqs_23 lts_23 eqs_24 lts_24 eqs_30 eqs_31 eqs_32 eqs_34 lts_34 self_eq_add
attribute [go_sem] add_eq_self Nat.zero_le Nat.le_refl isIntT_slice rowsIn
attribute [go_sem] oD oL oR oF oW fa_ptr fa_pp faPtr_some faPP_some un_22 un_23 ze_25
attribute [go_sem] el_28 sz_3 ze_3 el_51 sz_9 ze_9 un_9 un_28 un_51 ze_31 bs_31 fp_31_0
attribute [go_sem] fp_31_1 sz_31 un_32 sz_37 ag_37 ze_37 un_3 ag_31 sz_35 ag_35 ag_3 ze_43
attribute [go_sem] bs_43 fp_43_0 fp_43_1 fp_43_2 ze_46 bs_46 fp_46_0 fp_46_1 un_49 sz_46 sz_44 ag_44
attribute [go_sem] un_44 sz_25 ag_25 un_25 ag_9 ze_57 un_57 ag_46 sz_43 ze_61 bs_61 fp_61_0
attribute [go_sem] fp_61_1 el_49 sz_61 un_64 sz_5 ag_5 un_5 ag_43 ze_35 bs_35 fp_35_0 fp_35_1
attribute [go_sem] ze_70 bs_70 fp_70_0 fp_70_1 fp_70_2 fp_70_3 fp_70_4 sz_70 el_25 by_70 ag_70 sz_72
attribute [go_sem] ag_72 ze_72 un_72 bs_37 fp_37_0 fp_37_1 el_32 by_37 el_117 sz_39 ze_39 un_117
attribute [go_sem] sz_29 ag_29 un_29 un_76 un_4 sz_86 ag_61 ag_86 ze_86 sz_28 ag_28 ze_90
attribute [go_sem] bs_90 fp_90_0 fp_90_1 sz_4 ag_4 sz_91 ag_91 by_3 by_61 un_98 un_39 ag_39
attribute [go_sem] bs_86 fp_86_0 fp_86_1 fp_86_2 el_29 by_86 un_123 ze_4 ze_106 bs_106 fp_106_0 fp_106_1
attribute [go_sem] fp_106_2 sz_97 ag_97 ze_97 by_9 sz_98 ag_98 sz_101 ag_101 un_101 sz_141 ag_141
attribute [go_sem] ze_141 un_151 ze_149 sz_149 sz_51 ag_51 ag_149 sz_146 ag_146 el_76 by_43 by_39
attribute [go_sem] el_44 sz_104 el_98 by_97 sz_99 ag_99 un_99 sz_100 ag_100 un_100 sz_102 ag_102
attribute [go_sem] un_102 sz_137 un_21 bs_149 fp_149_0 fp_149_1 fp_149_2 fp_149_3 ze_104 ag_104 ag_137 ze_137
attribute [go_sem] sz_165 ag_165 ze_165 sz_171 ag_171 ze_171 sz_110 ag_110 bs_137 fp_137_0 fp_137_1 el_99
attribute [go_sem] by_137 bs_97 fp_97_0 fp_97_1 fp_97_2 fp_97_3 fp_97_4 fp_97_5 bs_165 fp_165_0 fp_165_1 fp_165_2
attribute [go_sem] el_100 by_165 bs_141 fp_141_0 fp_141_1 fp_141_2 fp_141_3 fp_141_4 fp_141_5 fp_141_6 fp_141_7 fp_141_8
attribute [go_sem] el_101 by_141 sz_57 bs_171 fp_171_0 fp_171_1 el_102 by_171 sz_184 ag_184 sz_186 ag_186
attribute [go_sem] sz_147 ag_147 fa_37_0 fa_37_1 fa_35_0 fa_35_1 fa_31_1 fa_46_0 fa_46_1 fa_43_0 fa_31_0 fa_61_0
attribute [go_sem] fa_86_0 fa_61_1 fa_106_2 fa_86_1 fa_43_1 fa_43_2 fa_86_2 fa_90_1 fa_90_0 fa_104_2 fa_97_0 fa_137_1
attribute [go_sem] fa_97_1 fa_97_5 fa_97_4 fa_97_3 fa_104_4 fa_141_1 fa_141_3 fa_141_8 fa_70_1 fa_70_0 fa_70_2 fa_149_0
attribute [go_sem] fa_70_3 fa_149_1 fa_70_4 fa_106_0 fa_106_1 fa_104_0 fa_149_2 fa_149_3 fa_104_1 fa_104_3 fa_104_5 fa_137_0
attribute [go_sem] fa_165_0 fa_141_0 fa_171_0 fa_97_2 fa_141_2 fa_141_4 fa_141_7 fa_141_5 fa_141_6 fa_165_1 fa_171_1 q3_14
attribute [go_sem] q3_16 q3_35 q3_42 q4_34 pl_4_34 q4_53 pl_4_53 q6_2
attribute [go_sem] pl_6_2 q6_4 pl_6_4 q9_1 pl_9_1 q9_4 pl_9_4 q10_1 pl_10_1 q10_4 pl_10_4 q10_6
attribute [go_sem] pl_10_6 q10_13 pl_10_13 q10_18 pl_10_18 q21_8 pl_21_8 q22_1 pl_22_1 q25_6 pl_25_6 q26_1
attribute [go_sem] pl_26_1 q26_8 pl_26_8 q28_6 pl_28_6 q38_4 pl_38_4 q45_1 pl_45_1 q45_2 pl_45_2 q46_1
attribute [go_sem] pl_46_1 q46_6 pl_46_6 q46_8 pl_46_8 q46_10 pl_46_10 q46_11 pl_46_11 q46_14 pl_46_14 q47_7
attribute [go_sem] pl_47_7 q49_2 pl_49_2 q49_5 pl_49_5 q60_2 pl_60_2 q60_4 pl_60_4 q60_6 pl_60_6 q60_7
attribute [go_sem] pl_60_7 q65_1 pl_65_1 q76_9 pl_76_9 q81_1 pl_81_1 q82_5 pl_82_5 q97_1 pl_97_1 q98_1
attribute [go_sem] pl_98_1 q99_2 pl_99_2 q100_1 pl_100_1 q100_2 pl_100_2 q101_2 pl_101_2 q102_2 pl_102_2 q103_1
attribute [go_sem] pl_103_1 q105_1 pl_105_1 q105_2 pl_105_2 q105_3 pl_105_3 q107_1 pl_107_1 q107_2 pl_107_2 q108_1
attribute [go_sem] pl_108_1 q112_1 pl_112_1 q113_4 pl_113_4 q114_2 pl_114_2 q119_1 pl_119_1 q122_1 pl_122_1 q123_1
attribute [go_sem] pl_123_1 q126_1 pl_126_1 q127_1 pl_127_1 q128_1 pl_128_1 q129_1 pl_129_1 q130_1 pl_130_1 q131_1
attribute [go_sem] pl_131_1 q133_1 pl_133_1 q134_1 pl_134_1 q135_1 pl_135_1 q138_2 pl_138_2 q139_1 pl_139_1 q146_1
attribute [go_sem] pl_146_1 rf_6 rf_7 rf_14 rf_25_29 rf_34 rf_49_76 rf_53 rf_55 rf_57 rf_58
attribute [go_sem] rf_60_25 rf_61 rf_72 rf_74 rf_77_76 rf_84 rf_87 rf_89 rf_91 rf_98 rf_101_98 rf_108
attribute [go_sem] rf_111 rf_114_101 rf_123 rf_125 rf_136 ks_0 ks_1 ks_2 ks_3 ks_4 ks_5 ks_6
attribute [go_sem] ks_7 ks_8 ks_9 ks_10 ks_11 ks_12 ks_13 ks_14 ks_15 ks_16 ks_17 ks_18
attribute [go_sem] ks_19 ks_20 ks_21 ks_22 ks_23 ks_24 ks_25 ks_26 ks_27 ks_28 ks_29 ks_30
attribute [go_sem] ks_31 ks_32 ks_33 ks_34
end Go.Sim

namespace Go.Sim
open Go Go.Proofs
set_option maxRecDepth 100000
set_option maxHeartbeats 1000000
def nilO (v:AV) (K:AV→Prop) (_t:Tag K:=⟨⟩):Prop:=match v with
 | .ptr id off=>K (.ptr id off)
 | .pptr cs=>K (.pptr cs)
 | .fn f a b=>K (.fn f a b)
 | .yld l=>K (.yld l)
 | _=>False
theorem nilO_pptr (cs:List AV) (K:AV→Prop):nilO (.pptr cs) K=K (.pptr cs):=rfl
theorem nilO_ptr (id off:Nat) (K:AV→Prop):nilO (.ptr id off) K=K (.ptr id off):=rfl
theorem op_nil {C:Cfg} {rec:Rec} {fid lo:Nat} {T:TT AV} {H:Heap} {K:AV→Heap→Prop} {d:Option Tmp} {t:TypeId} {p:String} {af:Array Edge} {gd:Option (Nat × Bool)} (x:Operand):VO (aop C rec fid lo ⟨d,.nilCheck x,t,p,af,gd⟩ T H) K=AO (evalO C T x) fun v=>nilO v fun v=>K v H:=by
 simp only [aop]
 cases evalO C T x with
 | none=>rfl
 | some v=>cases v<;>rfl
theorem evalO_nili {C:Cfg} {T:TT AV}:evalO C T (.const .nilIface)=some .nili:=rfl
attribute [go_sem ↓] op_nil nilO_ptr nilO_pptr
theorem evalO_nilp {C:Cfg} {T:TT AV}:evalO C T (.const (.pointer none))=some .nilp:=rfl
theorem evalO_nilm {C:Cfg} {T:TT AV}:evalO C T (.const (.map none))=some .nilm:=rfl
attribute [go_sem] evalO_nili evalO_nilp evalO_nilm evalO_nilf
theorem strip_ps (t:Tok) (rows:List (List AV)):AV.strip0 (.ps t rows)=.ps .unk rows:=rfl
attribute [go_sem] strip_ps
def AppB (b:Nat) (H:Heap) (t:Tok) (rows:List (List AV)) (sz:Nat) (e:TypeId):Prop:=(t=.nil∧rows=[]) ∨ ∃ j,t=.tok j∧rows ≠ []∧b≤j∧j < H.n∧H.get j=.row [] sz e
def Old (b:Nat) (H H':Heap):Prop:=b≤H'.n ∧ ∀ i,i < b→H'.get i=H.get i
theorem Old.refl (H:Heap):Old H.n H H:=⟨Nat.le_refl _,fun _ _=>rfl⟩
theorem Old.push {b:Nat} {H H':Heap} (h:Old b H H') (x:ABlk):Old b H (H'.push x):=⟨by simp;have:=h.1;omega,fun i hi=>by rw [Heap.get_push,if_neg (by have:=h.1;omega)];exact h.2 i hi⟩
theorem Old.set {b:Nat} {H H':Heap} (h:Old b H H') {j:Nat} (hj:b≤j) (x:ABlk):Old b H (H'.set j x):=⟨by simpa using h.1,fun i hi=>by rw [Heap.get_set,if_neg (by omega)];exact h.2 i hi⟩
theorem Old.new {b:Nat} {H H':Heap} (h:Old b H H') (x y:ABlk):Old b H ((H'.push x).set H'.n y):=(h.push x).set h.1 y
theorem Old.trans {b:Nat} {H H1 H2:Heap} (h:Old b H H1) (h2:Old b H1 H2):Old b H H2:=⟨h2.1,fun i hi=>(h2.2 i hi).trans (h.2 i hi)⟩
theorem AppB.set {b:Nat} {H:Heap} {t:Tok} {rows:List (List AV)} {sz:Nat} {e:TypeId} (h:AppB b H t rows sz e) {i:Nat} (x:ABlk) (hi:H.get i ≠ .row [] sz e):AppB b (H.set i x) t rows sz e:=by
 rcases h with h | ⟨j,h1,h2,h3,h4,h5⟩
 · exact .inl h
 · exact .inr ⟨j,h1,h2,h3,h4,by rw [Heap.get_set,if_neg (fun he=>hi (by rw [← he];exact h5))];exact h5⟩
theorem AppB.new {b:Nat} {H:Heap} {t:Tok} {rows:List (List AV)} {sz:Nat} {e:TypeId} (h:AppB b H t rows sz e) (x y:ABlk):AppB b ((H.push x).set H.n y) t rows sz e:=by
 rcases h with h | ⟨j,h1,h2,h3,h4,h5⟩
 · exact .inl h
 · exact .inr ⟨j,h1,h2,h3,by simp;omega,by rw [Heap.get_set,if_neg (by omega),Heap.get_push,if_neg (by omega)];exact h5⟩
theorem app_b {b:Nat} {H:Heap} {t:Tok} {rows:List (List AV)} {sz lo:Nat} {e:TypeId} (h:AppB b H t rows sz e) (hb:b≤H.n) (hlo:lo≤b) {r:List AV} (h1:rows.length+1≤maxRows) (h2:pureRow r=true) (h3:0 < sz) (h4:rows.all (fun r=>r.length=sz)=true) :
 ∃ t' H',appP lo H sz e (.ps t rows) [r]=some (.ps t' (rows++[r.map AV.strip0]),H')∧AppB b H' t' (rows++[r.map AV.strip0]) sz e∧H.n≤H'.n∧Old b H H'∧(∀ i c u,i < H.n→H.get i=.cells c u→H'.get i=.cells c u):=by
 rcases h with ⟨rfl,rfl⟩ | ⟨j,rfl,h6,hj,h7,h8⟩
 · refine ⟨.tok H.n,H.push (.row [] sz e),app_first (by simp) (by show 1≤1073741824;decide) (by simp [h2]) h3,.inr ⟨H.n,rfl,by simp,hb,by simp,by rw [Heap.get_push,if_pos rfl]⟩,by simp,⟨by simp;omega,fun i hi=>by rw [Heap.get_push,if_neg (by omega)]⟩,fun i c u hi hc => ?_⟩
   rw [Heap.get_push,if_neg (by omega)];exact hc
 · refine ⟨.tok H.n,(H.set j .dead).push (.row [] sz e),app_next (by simp) (by simpa using h1) (by simp [h2]) h3 h4 h8 (by omega) h6,.inr ⟨H.n,rfl,by simp,hb,by simp,by rw [Heap.get_push,if_pos (by simp)]⟩,by simp,⟨by simp;omega,fun i hi=>by rw [Heap.get_push,if_neg (by simp;omega),Heap.get_set,if_neg (by omega)]⟩,fun i c u hi hc => ?_⟩
   rw [Heap.get_push,if_neg (by simp;omega),Heap.get_set,if_neg (fun he=>by rw [he,h8] at hc;cases hc)];exact hc
end Go.Sim

namespace Go.Sim
open Go Go.Proofs
open Go.Sim.Pos (Nm Trk Flt Trn Pos Mch Reg Ev)
set_option maxRecDepth 100000
set_option maxHeartbeats 1000000
noncomputable def PPF41:FuncId→Option (List AV→Option AV):=fun _=>none
theorem primsF41:PrimsOk NC PPF41:=primsOk_none
theorem c41 (b:Bool) (e:Int):∀ lo H,CallOk NC lo 41 [.bool b,i64 e] H (i64 (whenI b e)) H:=by
 refine contract saneNC primsF41 (fn:=Tryz.f41) (by kernel_rfl) Tryz.func41 rfl rfl (by rfl) (by first | rfl | (split<;>first | rfl | (split<;>rfl))) ?_
 cases b<;>simp (config:={ maxDischargeDepth:=12 }) only [go_sem,reduceIte,reduceEqDiff,reduceAdd,reduceMul,reduceSub,reduceLeDiff,reduceLT,Nat.reduceBEq,reduceCtorEq]<;>simp [whenI]
noncomputable def p41:List AV→Option AV:=primOf (α:=(Bool) × (Int)) (fun x=>[.bool x.1,i64 x.2]) (fun x=>True) (fun x=>i64 (whenI x.1 x.2))
theorem pok41:∀ args v,p41 args=some v → ∀ lo H,CallOk NC lo 41 args H v H:=by
 intro args v h
 obtain ⟨x,rfl,hp,rfl⟩:=primOf_inv h
 exact c41 x.1 x.2
theorem pe41 (b:Bool) (e:Int):p41 [.bool b,.int .i64 e]=some (.int .i64 (whenI b e)):=primOf_enc (by intro x y h;(simp only [List.cons.injEq,AV.agg.injEq,AV.str.injEq,AV.int.injEq,AV.ps.injEq,AV.bool.injEq,true_and,and_true] at h;first | simpa only [Prod.ext_iff] using h | simpa only [Prod.ext_iff,and_assoc] using h)) (b,e) trivial
attribute [go_sem] pe41
def withinI (n a b:Int):Int:=whenI (decide (n < a) || decide (b < n)) 3
noncomputable def PPF71:FuncId→Option (List AV→Option AV):=addPrim 41 p41 (fun _=>none)
theorem primsF71:PrimsOk NC PPF71:=primsOk_add (primsOk_none) (by kernel_rfl) (by kernel_rfl) pok41
/-- A function is known by a contract. -/
abbrev En (P:FuncId→Option (List AV→Option AV)) (f:FuncId) (p:List AV→Option AV):Prop:=∀ {rec:Rec} {lo:Nat} {args:List AV} {H:Heap} {K:AV→Heap→Prop},VO (aenter (NC.withPrims P) rec lo f args H) K=AO (p args) fun v=>K v H
theorem enF71_41:En PPF71 41 p41:=enter_prim (by rfl) (by kernel_rfl)
attribute [go_sem ↓] enF71_41
theorem c71 (n a b:Int):∀ lo H,CallOk NC lo 71 [i64 n,i64 a,i64 b] H (i64 (withinI n a b)) H:=by
 refine contract saneNC primsF71 (fn:=Tryz.f71) (by kernel_rfl) Tryz.func71 rfl rfl (by rfl) (by first | rfl | (split<;>first | rfl | (split<;>rfl))) ?_
 by_cases h1:n < a<;>by_cases h2:b < n<;>simp (config:={ maxDischargeDepth:=12 }) only [go_sem,reduceIte,reduceEqDiff,reduceAdd,reduceMul,reduceSub,reduceLeDiff,reduceLT,Nat.reduceBEq,reduceCtorEq,h1,h2,pe41]<;>simp [withinI,h1,h2]
noncomputable def p71:List AV→Option AV:=primOf (α:=(Int) × (Int) × (Int)) (fun x=>[i64 x.1,i64 x.2.1,i64 x.2.2]) (fun x=>True) (fun x=>i64 (withinI x.1 x.2.1 x.2.2))
theorem pok71:∀ args v,p71 args=some v → ∀ lo H,CallOk NC lo 71 args H v H:=by
 intro args v h
 obtain ⟨x,rfl,hp,rfl⟩:=primOf_inv h
 exact c71 x.1 x.2.1 x.2.2
theorem pe71 (n a b:Int):p71 [.int .i64 n,.int .i64 a,.int .i64 b]=some (.int .i64 (withinI n a b)):=primOf_enc (by intro x y h;(simp only [List.cons.injEq,AV.agg.injEq,AV.str.injEq,AV.int.injEq,AV.ps.injEq,AV.bool.injEq,true_and,and_true] at h;first | simpa only [Prod.ext_iff] using h | simpa only [Prod.ext_iff,and_assoc] using h)) (n,a,b) trivial
attribute [go_sem] pe71
theorem first_zero {l:List Int} {k:Nat} (h:∀ i x,i < k→l[i]? = some x→x=0) (hk:k≤l.length):firstI l=firstI (l.drop k):=by
 induction k generalizing l with
 | zero=>rfl
 | succ k ih =>
   cases l with
   | nil=>simp at hk
   | cons a r =>
     have h0:=h 0 a (by omega) rfl
     subst h0
     show firstI r=firstI (r.drop k)
     exact ih (fun i x hi hx=>h (i+1) x (by omega) (by simpa using hx)) (by simpa using hk)
noncomputable def PPF40:FuncId→Option (List AV→Option AV):=fun _=>none
theorem primsF40:PrimsOk NC PPF40:=primsOk_none
theorem c40 (l:List Int) (hp:l.length≤maxRows):∀ lo H,CallOk NC lo 40 [.ps .unk (ints l)] H (i64 (firstI l)) H:=by
 refine contract saneNC primsF40 (fn:=Tryz.f40) (by kernel_rfl) Tryz.func40 rfl rfl (by rfl) (by first | rfl | (split<;>first | rfl | (split<;>rfl))) ?_
 simp (config:={ maxDischargeDepth:=12 }) only [go_sem,reduceIte,reduceEqDiff,reduceAdd,reduceMul,reduceSub,reduceLeDiff,reduceLT,Nat.reduceBEq,reduceCtorEq]
 refine W_for (fun k T H M=>M=[]∧getT T 5=.ps .unk (ints l)∧getT T 6=i64 (l.length:Nat)∧getT T 7=i64 k ∧ ∀ i x,i < k→l[i]? = some x→x=0) l.length ?_ ?_ ?_
 · simp (config:={ maxDischargeDepth:=12 }) only [go_sem,reduceIte,reduceEqDiff,reduceAdd,reduceMul,reduceSub,reduceLeDiff,reduceLT,Nat.reduceBEq,reduceCtorEq,ints_len];exact fun i x h=>by omega
 · rintro k T H M hk ⟨rfl,g5,g6,g7,hz⟩
   obtain ⟨x,hx⟩:∃ x,l[k]? = some x:=⟨l[k],by simp⟩
   have hr:=ints_at hx
   have hw:=wrap_succ hk hp
   by_cases h0:x=0
   · subst h0
     simp (config:={ maxDischargeDepth:=12 }) only [go_sem,reduceIte,reduceEqDiff,reduceAdd,reduceMul,reduceSub,reduceLeDiff,reduceLT,Nat.reduceBEq,reduceCtorEq,g5,g6,g7,hk,ints_len,hr,hw]
     intro i y hi hy
     by_cases he:i=k
     · subst he;rw [hx] at hy;cases hy;rfl
     · exact hz i y (by omega) hy
   · simp (config:={ maxDischargeDepth:=12 }) only [go_sem,reduceIte,reduceEqDiff,reduceAdd,reduceMul,reduceSub,reduceLeDiff,reduceLT,Nat.reduceBEq,reduceCtorEq,g5,g6,g7,hk,ints_len,hr,hw,h0]
     rw [first_zero hz (by omega),drop_at hx]
     simp [firstI,h0]
 · rintro T H M ⟨rfl,g5,g6,g7,hz⟩
   simp (config:={ maxDischargeDepth:=12 }) only [go_sem,reduceIte,reduceEqDiff,reduceAdd,reduceMul,reduceSub,reduceLeDiff,reduceLT,Nat.reduceBEq,reduceCtorEq,g5,g6,g7,Nat.lt_irrefl]
   rw [first_zero hz (Nat.le_refl _),List.drop_length];rfl
noncomputable def p40:List AV→Option AV:=primOf (α:=(List Int)) (fun x=>[.ps .unk (ints x)]) (fun x=>x.length≤maxRows) (fun x=>i64 (firstI x))
theorem pok40:∀ args v,p40 args=some v → ∀ lo H,CallOk NC lo 40 args H v H:=by
 intro args v h
 obtain ⟨x,rfl,hp,rfl⟩:=primOf_inv h
 exact c40 x hp
theorem pe40 (l:List Int) (hp:l.length≤maxRows):p40 [.ps .unk (ints l)]=some (.int .i64 (firstI l)):=primOf_enc (by intro x y h;(simp only [List.cons.injEq,AV.agg.injEq,AV.str.injEq,AV.int.injEq,AV.ps.injEq,AV.bool.injEq,ints_inj,true_and,and_true] at h;first | simpa only [Prod.ext_iff] using h | simpa only [Prod.ext_iff,and_assoc] using h)) l hp
attribute [go_sem] pe40
theorem first_1 (a:Int):p40 [.ps .unk [[.int .i64 a]]]=some (.int .i64 (firstI [a])):=pe40 [a] (by show 1≤1073741824;decide)
theorem first_2 (a b:Int):p40 [.ps .unk [[.int .i64 a],[.int .i64 b]]]=some (.int .i64 (firstI [a,b])):=pe40 [a,b] (by show 2≤1073741824;decide)
theorem first_3 (a b c:Int):p40 [.ps .unk [[.int .i64 a],[.int .i64 b],[.int .i64 c]]]=some (.int .i64 (firstI [a,b,c])):=pe40 [a,b,c] (by show 3≤1073741824;decide)
theorem first_4 (a b c d:Int):p40 [.ps .unk [[.int .i64 a],[.int .i64 b],[.int .i64 c],[.int .i64 d]]]=some (.int .i64 (firstI [a,b,c,d])):=pe40 [a,b,c,d] (by show 4≤1073741824;decide)
attribute [go_sem] first_1 first_2 first_3 first_4
noncomputable def PPF95:FuncId→Option (List AV→Option AV):=fun _=>none
theorem primsF95:PrimsOk NC PPF95:=primsOk_none
theorem c95 (x:Int):∀ lo H,CallOk NC lo 95 [.int .i32 x] H (.bool (letB x)) H:=by
 refine contract saneNC primsF95 (fn:=Tryz.f95) (by kernel_rfl) Tryz.func95 rfl rfl (by rfl) (by first | rfl | (split<;>first | rfl | (split<;>rfl))) ?_
 by_cases h1:x < 65<;>by_cases h2:90 < x<;>by_cases h3:x < 97<;>by_cases h4:122 < x<;>simp (config:={ maxDischargeDepth:=12 }) only [go_sem,reduceIte,reduceEqDiff,reduceAdd,reduceMul,reduceSub,reduceLeDiff,reduceLT,Nat.reduceBEq,reduceCtorEq,h1,h2,h3,h4]<;>simp [letB,h1,h2,h3,h4]
noncomputable def p95:List AV→Option AV:=primOf (α:=(Int)) (fun x=>[.int .i32 x]) (fun x=>True) (fun x=>.bool (letB x))
theorem pok95:∀ args v,p95 args=some v → ∀ lo H,CallOk NC lo 95 args H v H:=by
 intro args v h
 obtain ⟨x,rfl,hp,rfl⟩:=primOf_inv h
 exact c95 x
theorem pe95 (x:Int):p95 [.int .i32 x]=some (.bool (letB x)):=primOf_enc (by intro x y h;(simp only [List.cons.injEq,AV.agg.injEq,AV.str.injEq,AV.int.injEq,AV.ps.injEq,AV.bool.injEq,true_and,and_true] at h;first | simpa only [Prod.ext_iff] using h | simpa only [Prod.ext_iff,and_assoc] using h)) x trivial
attribute [go_sem] pe95
noncomputable def PPF96:FuncId→Option (List AV→Option AV):=fun _=>none
theorem primsF96:PrimsOk NC PPF96:=primsOk_none
theorem c96 (x:Int):∀ lo H,CallOk NC lo 96 [.int .i32 x] H (.bool (digB x)) H:=by
 refine contract saneNC primsF96 (fn:=Tryz.f96) (by kernel_rfl) Tryz.func96 rfl rfl (by rfl) (by first | rfl | (split<;>first | rfl | (split<;>rfl))) ?_
 by_cases h1:x < 48<;>by_cases h2:57 < x<;>simp (config:={ maxDischargeDepth:=12 }) only [go_sem,reduceIte,reduceEqDiff,reduceAdd,reduceMul,reduceSub,reduceLeDiff,reduceLT,Nat.reduceBEq,reduceCtorEq,h1,h2]<;>simp [digB,h1,h2]
noncomputable def p96:List AV→Option AV:=primOf (α:=(Int)) (fun x=>[.int .i32 x]) (fun x=>True) (fun x=>.bool (digB x))
theorem pok96:∀ args v,p96 args=some v → ∀ lo H,CallOk NC lo 96 args H v H:=by
 intro args v h
 obtain ⟨x,rfl,hp,rfl⟩:=primOf_inv h
 exact c96 x
theorem pe96 (x:Int):p96 [.int .i32 x]=some (.bool (digB x)):=primOf_enc (by intro x y h;(simp only [List.cons.injEq,AV.agg.injEq,AV.str.injEq,AV.int.injEq,AV.ps.injEq,AV.bool.injEq,true_and,and_true] at h;first | simpa only [Prod.ext_iff] using h | simpa only [Prod.ext_iff,and_assoc] using h)) x trivial
attribute [go_sem] pe96
noncomputable def PPF62:FuncId→Option (List AV→Option AV):=fun _=>none
theorem primsF62:PrimsOk NC PPF62:=primsOk_none
theorem c62 (f:Flt):∀ lo H,CallOk NC lo 62 [.agg f.row] H (.bool f.silent) H:=by
 refine contract saneNC primsF62 (fn:=Tryz.f62) (by kernel_rfl) Tryz.func62 rfl rfl (by rfl) (by first | rfl | (split<;>first | rfl | (split<;>rfl))) ?_
 obtain ⟨nm,tr,a,b,v,an,re⟩:=f
 simp only [Pos.Flt.row]
 cases an<;>cases re<;>simp (config:={ maxDischargeDepth:=12 }) only [go_sem,reduceIte,reduceEqDiff,reduceAdd,reduceMul,reduceSub,reduceLeDiff,reduceLT,Nat.reduceBEq,reduceCtorEq]<;>simp [Pos.Flt.silent]
noncomputable def p62:List AV→Option AV:=primOf (α:=(Flt)) (fun x=>[.agg x.row]) (fun x=>True) (fun x=>.bool x.silent)
theorem pok62:∀ args v,p62 args=some v → ∀ lo H,CallOk NC lo 62 args H v H:=by
 intro args v h
 obtain ⟨x,rfl,hp,rfl⟩:=primOf_inv h
 exact c62 x
theorem pe62 (f:Flt):p62 [.agg f.row]=some (.bool f.silent):=primOf_enc (by intro x y h;(simp only [List.cons.injEq,AV.agg.injEq,AV.str.injEq,AV.int.injEq,AV.ps.injEq,AV.bool.injEq,Pos.Flt.row_inj,true_and,and_true] at h;first | simpa only [Prod.ext_iff] using h | simpa only [Prod.ext_iff,and_assoc] using h)) f trivial
attribute [go_sem] pe62
noncomputable def PPF85:FuncId→Option (List AV→Option AV):=fun _=>none
theorem primsF85:PrimsOk NC PPF85:=primsOk_none
theorem c85 (x:Trk):∀ lo H,CallOk NC lo 85 [.agg x.row] H (.str x.name) H:=by
 refine contract saneNC primsF85 (fn:=Tryz.f85) (by kernel_rfl) Tryz.func85 rfl rfl (by rfl) (by first | rfl | (split<;>first | rfl | (split<;>rfl))) ?_
 simp (config:={ maxDischargeDepth:=12 }) only [go_sem,reduceIte,reduceEqDiff,reduceAdd,reduceMul,reduceSub,reduceLeDiff,reduceLT,Nat.reduceBEq,reduceCtorEq,Pos.Trk.row]
noncomputable def p85:List AV→Option AV:=primOf (α:=(Trk)) (fun x=>[.agg x.row]) (fun x=>True) (fun x=>.str x.name)
theorem pok85:∀ args v,p85 args=some v → ∀ lo H,CallOk NC lo 85 args H v H:=by
 intro args v h
 obtain ⟨x,rfl,hp,rfl⟩:=primOf_inv h
 exact c85 x
theorem pe85 (x:Trk):p85 [.agg x.row]=some (.str x.name):=primOf_enc (by intro x y h;(simp only [List.cons.injEq,AV.agg.injEq,AV.str.injEq,AV.int.injEq,AV.ps.injEq,AV.bool.injEq,Pos.Trk.row_inj,true_and,and_true] at h;first | simpa only [Prod.ext_iff] using h | simpa only [Prod.ext_iff,and_assoc] using h)) x trivial
attribute [go_sem] pe85
noncomputable def PPF86:FuncId→Option (List AV→Option AV):=fun _=>none
theorem primsF86:PrimsOk NC PPF86:=primsOk_none
theorem c86 (x:Flt):∀ lo H,CallOk NC lo 86 [.agg x.row] H (.str x.name) H:=by
 refine contract saneNC primsF86 (fn:=Tryz.f86) (by kernel_rfl) Tryz.func86 rfl rfl (by rfl) (by first | rfl | (split<;>first | rfl | (split<;>rfl))) ?_
 simp (config:={ maxDischargeDepth:=12 }) only [go_sem,reduceIte,reduceEqDiff,reduceAdd,reduceMul,reduceSub,reduceLeDiff,reduceLT,Nat.reduceBEq,reduceCtorEq,Pos.Flt.row]
noncomputable def p86:List AV→Option AV:=primOf (α:=(Flt)) (fun x=>[.agg x.row]) (fun x=>True) (fun x=>.str x.name)
theorem pok86:∀ args v,p86 args=some v → ∀ lo H,CallOk NC lo 86 args H v H:=by
 intro args v h
 obtain ⟨x,rfl,hp,rfl⟩:=primOf_inv h
 exact c86 x
theorem pe86 (x:Flt):p86 [.agg x.row]=some (.str x.name):=primOf_enc (by intro x y h;(simp only [List.cons.injEq,AV.agg.injEq,AV.str.injEq,AV.int.injEq,AV.ps.injEq,AV.bool.injEq,Pos.Flt.row_inj,true_and,and_true] at h;first | simpa only [Prod.ext_iff] using h | simpa only [Prod.ext_iff,and_assoc] using h)) x trivial
attribute [go_sem] pe86
noncomputable def PPF88:FuncId→Option (List AV→Option AV):=fun _=>none
theorem primsF88:PrimsOk NC PPF88:=primsOk_none
theorem c88 (x:Trn):∀ lo H,CallOk NC lo 88 [.agg x.row] H (.str x.name) H:=by
 refine contract saneNC primsF88 (fn:=Tryz.f88) (by kernel_rfl) Tryz.func88 rfl rfl (by rfl) (by first | rfl | (split<;>first | rfl | (split<;>rfl))) ?_
 simp (config:={ maxDischargeDepth:=12 }) only [go_sem,reduceIte,reduceEqDiff,reduceAdd,reduceMul,reduceSub,reduceLeDiff,reduceLT,Nat.reduceBEq,reduceCtorEq,Pos.Trn.row]
noncomputable def p88:List AV→Option AV:=primOf (α:=(Trn)) (fun x=>[.agg x.row]) (fun x=>True) (fun x=>.str x.name)
theorem pok88:∀ args v,p88 args=some v → ∀ lo H,CallOk NC lo 88 args H v H:=by
 intro args v h
 obtain ⟨x,rfl,hp,rfl⟩:=primOf_inv h
 exact c88 x
theorem pe88 (x:Trn):p88 [.agg x.row]=some (.str x.name):=primOf_enc (by intro x y h;(simp only [List.cons.injEq,AV.agg.injEq,AV.str.injEq,AV.int.injEq,AV.ps.injEq,AV.bool.injEq,Pos.Trn.row_inj,true_and,and_true] at h;first | simpa only [Prod.ext_iff] using h | simpa only [Prod.ext_iff,and_assoc] using h)) x trivial
attribute [go_sem] pe88
noncomputable def PPF90:FuncId→Option (List AV→Option AV):=fun _=>none
theorem primsF90:PrimsOk NC PPF90:=primsOk_none
theorem c90 (x:Pos):∀ lo H,CallOk NC lo 90 [.agg x.row] H (.str x.name) H:=by
 refine contract saneNC primsF90 (fn:=Tryz.f90) (by kernel_rfl) Tryz.func90 rfl rfl (by rfl) (by first | rfl | (split<;>first | rfl | (split<;>rfl))) ?_
 simp (config:={ maxDischargeDepth:=12 }) only [go_sem,reduceIte,reduceEqDiff,reduceAdd,reduceMul,reduceSub,reduceLeDiff,reduceLT,Nat.reduceBEq,reduceCtorEq,Pos.Pos.row]
noncomputable def p90:List AV→Option AV:=primOf (α:=(Pos)) (fun x=>[.agg x.row]) (fun x=>True) (fun x=>.str x.name)
theorem pok90:∀ args v,p90 args=some v → ∀ lo H,CallOk NC lo 90 args H v H:=by
 intro args v h
 obtain ⟨x,rfl,hp,rfl⟩:=primOf_inv h
 exact c90 x
theorem pe90 (x:Pos):p90 [.agg x.row]=some (.str x.name):=primOf_enc (by intro x y h;(simp only [List.cons.injEq,AV.agg.injEq,AV.str.injEq,AV.int.injEq,AV.ps.injEq,AV.bool.injEq,Pos.Pos.row_inj,true_and,and_true] at h;first | simpa only [Prod.ext_iff] using h | simpa only [Prod.ext_iff,and_assoc] using h)) x trivial
attribute [go_sem] pe90
noncomputable def PPF92:FuncId→Option (List AV→Option AV):=fun _=>none
theorem primsF92:PrimsOk NC PPF92:=primsOk_none
theorem c92 (x:Mch):∀ lo H,CallOk NC lo 92 [.agg x.row] H (.str x.name) H:=by
 refine contract saneNC primsF92 (fn:=Tryz.f92) (by kernel_rfl) Tryz.func92 rfl rfl (by rfl) (by first | rfl | (split<;>first | rfl | (split<;>rfl))) ?_
 simp (config:={ maxDischargeDepth:=12 }) only [go_sem,reduceIte,reduceEqDiff,reduceAdd,reduceMul,reduceSub,reduceLeDiff,reduceLT,Nat.reduceBEq,reduceCtorEq,Pos.Mch.row]
noncomputable def p92:List AV→Option AV:=primOf (α:=(Mch)) (fun x=>[.agg x.row]) (fun x=>True) (fun x=>.str x.name)
theorem pok92:∀ args v,p92 args=some v → ∀ lo H,CallOk NC lo 92 args H v H:=by
 intro args v h
 obtain ⟨x,rfl,hp,rfl⟩:=primOf_inv h
 exact c92 x
theorem pe92 (x:Mch):p92 [.agg x.row]=some (.str x.name):=primOf_enc (by intro x y h;(simp only [List.cons.injEq,AV.agg.injEq,AV.str.injEq,AV.int.injEq,AV.ps.injEq,AV.bool.injEq,Pos.Mch.row_inj,true_and,and_true] at h;first | simpa only [Prod.ext_iff] using h | simpa only [Prod.ext_iff,and_assoc] using h)) x trivial
attribute [go_sem] pe92
noncomputable def PPF149:FuncId→Option (List AV→Option AV):=fun _=>none
theorem primsF149:PrimsOk NC PPF149:=primsOk_none
theorem c149 (x:Mch):∀ lo H,CallOk NC lo 149 [.agg x.row] H (.str x.name) H:=by
 refine contract saneNC primsF149 (fn:=Tryz.f149) (by kernel_rfl) Tryz.func149 rfl rfl (by rfl) (by first | rfl | (split<;>first | rfl | (split<;>rfl))) ?_
 simp (config:={ maxDischargeDepth:=12 }) only [go_sem,reduceIte,reduceEqDiff,reduceAdd,reduceMul,reduceSub,reduceLeDiff,reduceLT,Nat.reduceBEq,reduceCtorEq,Pos.Mch.row]
noncomputable def p149:List AV→Option AV:=primOf (α:=(Mch)) (fun x=>[.agg x.row]) (fun x=>True) (fun x=>.str x.name)
theorem pok149:∀ args v,p149 args=some v → ∀ lo H,CallOk NC lo 149 args H v H:=by
 intro args v h
 obtain ⟨x,rfl,hp,rfl⟩:=primOf_inv h
 exact c149 x
theorem pe149 (x:Mch):p149 [.agg x.row]=some (.str x.name):=primOf_enc (by intro x y h;(simp only [List.cons.injEq,AV.agg.injEq,AV.str.injEq,AV.int.injEq,AV.ps.injEq,AV.bool.injEq,Pos.Mch.row_inj,true_and,and_true] at h;first | simpa only [Prod.ext_iff] using h | simpa only [Prod.ext_iff,and_assoc] using h)) x trivial
attribute [go_sem] pe149
noncomputable def PPF36:FuncId→Option (List AV→Option AV):=fun _=>none
theorem primsF36:PrimsOk NC PPF36:=primsOk_none
theorem c36 (x:Flt):∀ lo H,CallOk NC lo 36 [.agg x.row] H (.str x.name) H:=by
 refine contract saneNC primsF36 (fn:=Tryz.f36) (by kernel_rfl) Tryz.func36 rfl rfl (by rfl) (by first | rfl | (split<;>first | rfl | (split<;>rfl))) ?_
 simp (config:={ maxDischargeDepth:=12 }) only [go_sem,reduceIte,reduceEqDiff,reduceAdd,reduceMul,reduceSub,reduceLeDiff,reduceLT,Nat.reduceBEq,reduceCtorEq,Pos.Flt.row]
noncomputable def p36:List AV→Option AV:=primOf (α:=(Flt)) (fun x=>[.agg x.row]) (fun x=>True) (fun x=>.str x.name)
theorem pok36:∀ args v,p36 args=some v → ∀ lo H,CallOk NC lo 36 args H v H:=by
 intro args v h
 obtain ⟨x,rfl,hp,rfl⟩:=primOf_inv h
 exact c36 x
def idxW (x:Nm):List Nm→Int
 | []=>-1
 | a::l=>if a=x then 0 else if idxW x l = -1 then -1 else idxW x l+1
theorem idxW_none {x:Nm}:∀ {l:List Nm},x ∉ l→idxW x l = -1
 | [],_=>rfl
 | a::l,h=>by
   have h1:¬ a=x:=fun e=>h (by simp [e])
   have h2:=idxW_none (x:=x) (l:=l) fun hm=>h (by simp [hm])
   unfold idxW
   rw [if_neg h1,if_pos h2]
theorem idxW_at {x:Nm}:∀ {l:List Nm} {k:Nat},l[k]? = some x→x ∉ l.take k→idxW x l=(k:Int)
 | [],k,h,_=>by simp at h
 | a::l,0,h,_=>by
   have:a=x:=by simpa using h
   unfold idxW;rw [if_pos this];rfl
 | a::l,k+1,h,hn=>by
   rw [List.take_succ_cons] at hn
   have h1:¬ a=x:=fun e=>hn (by simp [e])
   have h2:=idxW_at (x:=x) (l:=l) (k:=k) (by simpa using h) fun hm=>hn (by simp [hm])
   unfold idxW
   rw [if_neg h1,h2,if_neg (by omega)]
   omega
noncomputable def PPF83:FuncId→Option (List AV→Option AV):=fun _=>none
theorem primsF83:PrimsOk NC PPF83:=primsOk_none
theorem c83 (l:List Nm) (w:Nm) (hp:l.length≤maxRows):∀ lo H,CallOk NC lo 83 [.ps .unk (strs l),.str w] H (i64 (idxW w l)) H:=by
 refine contract saneNC primsF83 (fn:=Tryz.f83) (by kernel_rfl) Tryz.func83 rfl rfl (by rfl) (by first | rfl | (split<;>first | rfl | (split<;>rfl))) ?_
 simp (config:={ maxDischargeDepth:=12 }) only [go_sem,reduceIte,reduceEqDiff,reduceAdd,reduceMul,reduceSub,reduceLeDiff,reduceLT,Nat.reduceBEq,reduceCtorEq]
 refine W_for (fun k T H M=>M=[]∧getT T 0=.ps .unk (strs l)∧getT T 1=.str w∧getT T 7=i64 (l.length:Nat)∧getT T 8=i64 k∧w ∉ l.take k) l.length ?_ ?_ ?_
 · simp (config:={ maxDischargeDepth:=12 }) only [go_sem,reduceIte,reduceEqDiff,reduceAdd,reduceMul,reduceSub,reduceLeDiff,reduceLT,Nat.reduceBEq,reduceCtorEq,strs_len];simp
 · rintro k T H M hk ⟨rfl,g0,g1,g7,g8,hz⟩
   obtain ⟨y,hy⟩:∃ x,l[k]? = some x:=⟨l[k],by simp⟩
   have hr:=strs_at hy
   have hw:=wrap_succ hk hp
   by_cases h0:y=w
   · subst h0
     have hb:beqL y y=true:=by rw [beqL_dec];simp
     simp (config:={ maxDischargeDepth:=12 }) only [go_sem,reduceIte,reduceEqDiff,reduceAdd,reduceMul,reduceSub,reduceLeDiff,reduceLT,Nat.reduceBEq,reduceCtorEq,g0,g1,g7,g8,hk,strs_len,hr,hw,hb]
     rw [idxW_at hy hz]
   · have hb:beqL w y=false:=by rw [beqL_dec];simpa using fun e=>h0 e.symm
     simp (config:={ maxDischargeDepth:=12 }) only [go_sem,reduceIte,reduceEqDiff,reduceAdd,reduceMul,reduceSub,reduceLeDiff,reduceLT,Nat.reduceBEq,reduceCtorEq,g0,g1,g7,g8,hk,strs_len,hr,hw,hb]
     rw [List.take_add_one,hy]
     simp only [Option.toList,List.mem_append,List.mem_singleton]
     rintro (h | h)
     · exact hz h
     · exact h0 h.symm
 · rintro T H M ⟨rfl,g0,g1,g7,g8,hz⟩
   rw [List.take_length] at hz
   simp (config:={ maxDischargeDepth:=12 }) only [go_sem,reduceIte,reduceEqDiff,reduceAdd,reduceMul,reduceSub,reduceLeDiff,reduceLT,Nat.reduceBEq,reduceCtorEq,g0,g1,g7,g8,Nat.lt_irrefl]
   rw [idxW_none hz]
noncomputable def p83:List AV→Option AV:=primOf (α:=(List Nm) × (Nm)) (fun x=>[.ps .unk (strs x.1),.str x.2]) (fun x=>x.1.length≤maxRows) (fun x=>i64 (idxW x.2 x.1))
theorem pok83:∀ args v,p83 args=some v → ∀ lo H,CallOk NC lo 83 args H v H:=by
 intro args v h
 obtain ⟨x,rfl,hp,rfl⟩:=primOf_inv h
 exact c83 x.1 x.2 hp
theorem pe83 (l:List Nm) (w:Nm) (hp:l.length≤maxRows):p83 [.ps .unk (strs l),.str w]=some (.int .i64 (idxW w l)):=primOf_enc (by intro x y h;(simp only [List.cons.injEq,AV.agg.injEq,AV.str.injEq,AV.int.injEq,AV.ps.injEq,AV.bool.injEq,strs_inj,true_and,and_true] at h;first | simpa only [Prod.ext_iff] using h | simpa only [Prod.ext_iff,and_assoc] using h)) (l,w) hp
attribute [go_sem] pe83
theorem idxW_ge (x:Nm) (l:List Nm):(idxW x l < 0)=(x ∉ l):=by
 simp only [eq_iff_iff]
 by_cases h:x ∈ l
 · obtain ⟨k,hk⟩:=List.mem_iff_getElem?.1 h
   have hex:∃ k,l[k]? = some x∧x ∉ l.take k:=by
    clear hk
    induction l with
    | nil=>simp at h
    | cons a r ih =>
      by_cases ha:a=x
      · exact ⟨0,by simp [ha],by simp⟩
      · have hr:x ∈ r:=by
         rcases List.mem_cons.1 h with e | e
         · exact absurd e.symm ha
         · exact e
        obtain ⟨k,h1,h2⟩:=ih hr
        exact ⟨k+1,by simpa using h1,by rw [List.take_succ_cons];simp [h2,Ne.symm ha]⟩
   obtain ⟨k,h1,h2⟩:=hex
   rw [idxW_at h1 h2]
   constructor
   · intro h;omega
   · intro h';exact absurd h h'
 · rw [idxW_none h]
   constructor
   · intro _;exact h
   · intro _;decide
noncomputable def PPF63:FuncId→Option (List AV→Option AV):=addPrim 83 p83 (fun _=>none)
theorem primsF63:PrimsOk NC PPF63:=primsOk_add (primsOk_none) (by kernel_rfl) (by kernel_rfl) pok83
theorem enF63_83:En PPF63 83 p83:=enter_prim (by rfl) (by kernel_rfl)
attribute [go_sem ↓] enF63_83
theorem c63 (l:List Nm) (w:Nm) (hp:l.length≤maxRows):∀ lo H,CallOk NC lo 63 [.ps .unk (strs l),.str w] H (.bool (decide (w ∈ l))) H:=by
 refine contract saneNC primsF63 (fn:=Tryz.f63) (by kernel_rfl) Tryz.func63 rfl rfl (by rfl) (by first | rfl | (split<;>first | rfl | (split<;>rfl))) ?_
 simp (config:={ maxDischargeDepth:=12 }) only [go_sem,reduceIte,reduceEqDiff,reduceAdd,reduceMul,reduceSub,reduceLeDiff,reduceLT,Nat.reduceBEq,reduceCtorEq,pe83 l w hp,idxW_ge]
 simp
noncomputable def p63:List AV→Option AV:=primOf (α:=(List Nm) × (Nm)) (fun x=>[.ps .unk (strs x.1),.str x.2]) (fun x=>x.1.length≤maxRows) (fun x=>.bool (decide (x.2 ∈ x.1)))
theorem pok63:∀ args v,p63 args=some v → ∀ lo H,CallOk NC lo 63 args H v H:=by
 intro args v h
 obtain ⟨x,rfl,hp,rfl⟩:=primOf_inv h
 exact c63 x.1 x.2 hp
theorem pe63 (l:List Nm) (w:Nm) (hp:l.length≤maxRows):p63 [.ps .unk (strs l),.str w]=some (.bool (decide (w ∈ l))):=primOf_enc (by intro x y h;(simp only [List.cons.injEq,AV.agg.injEq,AV.str.injEq,AV.int.injEq,AV.ps.injEq,AV.bool.injEq,strs_inj,true_and,and_true] at h;first | simpa only [Prod.ext_iff] using h | simpa only [Prod.ext_iff,and_assoc] using h)) (l,w) hp
attribute [go_sem] pe63
theorem dec_ascii {s:List Nat} {k c:Nat} (h:s[k]? = some c) (hc:c < 128):adecode s k=(c,1):=by
 unfold adecode
 have:s.getD (k+0) 0=c:=by simp [h]
 simp only [this]
 rw [if_pos hc]
theorem dec_high {s:List Nat} {k c:Nat} (h:s[k]? = some c) (hc:¬ c < 128):128≤(adecode s k).1:=by
 unfold adecode
 have h0:s.getD (k+0) 0=c:=by simp [h]
 simp only [h0]
 rw [if_neg hc]
 have he:(128:Nat)≤Utf8.runeError:=by decide
 split
 · split
   · rename_i h1;exact h1
   · exact he
 · split
   · split
     · rename_i h1;simp only [Bool.and_eq_true,decide_eq_true_eq] at h1;exact Nat.le_trans (by decide) h1.1
     · exact he
   · split
     · split
       · rename_i h1;simp only [Bool.and_eq_true,decide_eq_true_eq] at h1;exact Nat.le_trans (by decide) h1.1
       · exact he
     · exact he
theorem letB_high {x:Nat} (h:128≤x):letB x=false:=by
 have h1:¬ ((x:Int) < 65):=by omega
 have h2:(90:Int) < x:=by omega
 have h3:¬ ((x:Int) < 97):=by omega
 have h4:(122:Int) < x:=by omega
 simp [letB,h2,h4]
theorem digB_high {x:Nat} (h:128≤x):digB x=false:=by
 have h2:(57:Int) < x:=by omega
 simp [digB,h2]
noncomputable def PPF69:FuncId→Option (List AV→Option AV):=addPrim 96 p96 (addPrim 95 p95 (fun _=>none))
theorem primsF69:PrimsOk NC PPF69:=primsOk_add (primsOk_add (primsOk_none) (by kernel_rfl) (by kernel_rfl) pok95) (by kernel_rfl) (by kernel_rfl) pok96
theorem enF69_95:En PPF69 95 p95:=enter_prim (by rfl) (by kernel_rfl)
theorem enF69_96:En PPF69 96 p96:=enter_prim (by rfl) (by kernel_rfl)
attribute [go_sem ↓] enF69_95 enF69_96
theorem c69 (s:Nm):∀ lo H,CallOk NC lo 69 [.str s] H (.bool (nameB s)) H:=by
 refine contract saneNC primsF69 (fn:=Tryz.f69) (by kernel_rfl) Tryz.func69 rfl rfl (by rfl) (by first | rfl | (split<;>first | rfl | (split<;>rfl))) ?_
 simp (config:={ maxDischargeDepth:=12 }) only [go_sem,reduceIte,reduceEqDiff,reduceAdd,reduceMul,reduceSub,reduceLeDiff,reduceLT,Nat.reduceBEq,reduceCtorEq]
 refine W_for (fun k T H M=>M=[]∧getT T 0=.str s∧getT T 6=.ptr 0 0∧H.get 0=.sit s k∧(∀ c,0 < k→s[0]? = some c→letB (c:Nat)=true) ∧ ∀ (i c:Nat),1≤i→i < k→s[i]? = some c→restB c=true) s.length ?_ ?_ ?_
 · simp (config:={ maxDischargeDepth:=12 }) only [go_sem,reduceIte,reduceEqDiff,reduceAdd,reduceMul,reduceSub,reduceLeDiff,reduceLT,Nat.reduceBEq,reduceCtorEq];exact ⟨fun c h=>h.elim,fun i c h1 h2=>by omega⟩
 · rintro k T H M hk ⟨rfl,g0,g6,gH,hf0,hf⟩
   obtain ⟨c,hc⟩:∃ c,s[k]? = some c:=⟨s[k],by simp⟩
   by_cases hasc:c < 128
   · have hd:=dec_ascii hc hasc
     cases q1:letB (c:Nat) with
     | true =>
       simp (config:={ maxDischargeDepth:=12 }) only [go_sem,reduceIte,reduceEqDiff,reduceAdd,reduceMul,reduceSub,reduceLeDiff,reduceLT,Nat.reduceBEq,reduceCtorEq,g0,g6,gH,hk,hd,q1]
       refine ⟨fun d _ hd0 => ?_,fun i d hi hj hdi => ?_⟩
       · by_cases e:k=0
         · subst e;rw [hc] at hd0;cases hd0;exact q1
         · exact hf0 d (by omega) hd0
       · by_cases e:i=k
         · subst e;rw [hc] at hdi;cases hdi;simp [restB,q1]
         · exact hf i d hi (by omega) hdi
     | false =>
       by_cases e:k=0
       · subst e
         simp (config:={ maxDischargeDepth:=12 }) only [go_sem,reduceIte,reduceEqDiff,reduceAdd,reduceMul,reduceSub,reduceLeDiff,reduceLT,Nat.reduceBEq,reduceCtorEq,g0,g6,gH,hk,hd,q1]
         simp [nameB_not0 hc q1]
       · have e':((k:Int)=0)=False:=by simp;omega
         cases q2:digB (c:Nat) with
         | true =>
           simp (config:={ maxDischargeDepth:=12 }) only [go_sem,reduceIte,reduceEqDiff,reduceAdd,reduceMul,reduceSub,reduceLeDiff,reduceLT,Nat.reduceBEq,reduceCtorEq,g0,g6,gH,hk,hd,q1,q2,e']
           refine ⟨fun d _ hd0=>hf0 d (by omega) hd0,fun i d hi hj hdi => ?_⟩
           by_cases e:i=k
           · subst e;rw [hc] at hdi;cases hdi;simp [restB,q2]
           · exact hf i d hi (by omega) hdi
         | false =>
           rcases Classical.propComplete (((c:Nat):Int)=95) with q3 | q3
           · simp (config:={ maxDischargeDepth:=12 }) only [go_sem,reduceIte,reduceEqDiff,reduceAdd,reduceMul,reduceSub,reduceLeDiff,reduceLT,Nat.reduceBEq,reduceCtorEq,g0,g6,gH,hk,hd,q1,q2,q3,e']
             refine ⟨fun d _ hd0=>hf0 d (by omega) hd0,fun i d hi hj hdi => ?_⟩
             by_cases e:i=k
             · subst e;rw [hc] at hdi;cases hdi;simp [restB,q3]
             · exact hf i d hi (by omega) hdi
           · simp (config:={ maxDischargeDepth:=12 }) only [go_sem,reduceIte,reduceEqDiff,reduceAdd,reduceMul,reduceSub,reduceLeDiff,reduceLT,Nat.reduceBEq,reduceCtorEq,g0,g6,gH,hk,hd,q1,q2,q3,e']
             simp [nameB_not (by omega) hc (show restB (c:Nat)=false by simp [restB,q1,q2,q3])]
   · have hd:=dec_high hc hasc
     have q1:=letB_high hd
     have q2:=digB_high hd
     have q3:(((adecode s k).1:Int)=95)=False:=by simp;omega
     have r1:letB (c:Nat)=false:=letB_high (by omega)
     have r2:digB (c:Nat)=false:=digB_high (by omega)
     have r3:¬ ((c:Int)=95):=by omega
     by_cases e:k=0
     · subst e
       simp (config:={ maxDischargeDepth:=12 }) only [go_sem,reduceIte,reduceEqDiff,reduceAdd,reduceMul,reduceSub,reduceLeDiff,reduceLT,Nat.reduceBEq,reduceCtorEq,g0,g6,gH,hk,q1]
       simp [nameB_not0 hc r1]
     · have e':((k:Int)=0)=False:=by simp;omega
       simp (config:={ maxDischargeDepth:=12 }) only [go_sem,reduceIte,reduceEqDiff,reduceAdd,reduceMul,reduceSub,reduceLeDiff,reduceLT,Nat.reduceBEq,reduceCtorEq,g0,g6,gH,hk,q1,q2,q3,e']
       simp [nameB_not (by omega) hc (show restB (c:Nat)=false by simp [restB,r1,r2,r3])]
 · rintro T H M ⟨rfl,g0,g6,gH,hf0,hf⟩
   rcases Classical.propComplete ((0:Int) < (s.length:Int)) with h1 | h1
   · rcases Classical.propComplete ((24:Int) < (s.length:Int)) with h2 | h2
     · simp (config:={ maxDischargeDepth:=12 }) only [go_sem,reduceIte,reduceEqDiff,reduceAdd,reduceMul,reduceSub,reduceLeDiff,reduceLT,Nat.reduceBEq,reduceCtorEq,g0,g6,gH,Nat.lt_irrefl,h1,h2]
       have h2':=of_eq_true h2
       cases s with
       | nil=>simp [nameB]
       | cons c r=>simp [nameB];intro h;simp at h2';omega
     · simp (config:={ maxDischargeDepth:=12 }) only [go_sem,reduceIte,reduceEqDiff,reduceAdd,reduceMul,reduceSub,reduceLeDiff,reduceLT,Nat.reduceBEq,reduceCtorEq,g0,g6,gH,Nat.lt_irrefl,h1,h2]
       have h1':=of_eq_true h1
       have h2':=of_eq_false h2
       have:=nameB_at (s:=s) (by intro e;rw [e] at h1';simp at h1') (by omega) (fun d hd=>hf0 d (by omega) hd) (fun i d hi hd=>hf i d hi (List.getElem?_eq_some_iff.1 hd).1 hd)
       simp [this]
   · simp (config:={ maxDischargeDepth:=12 }) only [go_sem,reduceIte,reduceEqDiff,reduceAdd,reduceMul,reduceSub,reduceLeDiff,reduceLT,Nat.reduceBEq,reduceCtorEq,g0,g6,gH,Nat.lt_irrefl,h1]
     have h1':=of_eq_false h1
     have:s=[]:=List.length_eq_zero_iff.1 (by omega)
     subst this
     simp [nameB]
noncomputable def p69:List AV→Option AV:=primOf (α:=(Nm)) (fun x=>[.str x]) (fun x=>True) (fun x=>.bool (nameB x))
theorem pok69:∀ args v,p69 args=some v → ∀ lo H,CallOk NC lo 69 args H v H:=by
 intro args v h
 obtain ⟨x,rfl,hp,rfl⟩:=primOf_inv h
 exact c69 x
theorem pe69 (s:Nm):p69 [.str s]=some (.bool (nameB s)):=primOf_enc (by intro x y h;(simp only [List.cons.injEq,AV.agg.injEq,AV.str.injEq,AV.int.injEq,AV.ps.injEq,AV.bool.injEq,true_and,and_true] at h;first | simpa only [Prod.ext_iff] using h | simpa only [Prod.ext_iff,and_assoc] using h)) s trivial
attribute [go_sem] pe69
noncomputable def PPF73:FuncId→Option (List AV→Option AV):=addPrim 41 p41 (addPrim 69 p69 (fun _=>none))
theorem primsF73:PrimsOk NC PPF73:=primsOk_add (primsOk_add (primsOk_none) (by kernel_rfl) (by kernel_rfl) pok69) (by kernel_rfl) (by kernel_rfl) pok41
theorem enF73_69:En PPF73 69 p69:=enter_prim (by rfl) (by kernel_rfl)
theorem enF73_41:En PPF73 41 p41:=enter_prim (by rfl) (by kernel_rfl)
attribute [go_sem ↓] enF73_69 enF73_41
theorem c73 (s:Nm):∀ lo H,CallOk NC lo 73 [.str s] H (i64 (whenI (!nameB s) 8)) H:=by
 refine contract saneNC primsF73 (fn:=Tryz.f73) (by kernel_rfl) Tryz.func73 rfl rfl (by rfl) (by first | rfl | (split<;>first | rfl | (split<;>rfl))) ?_
 simp (config:={ maxDischargeDepth:=12 }) only [go_sem,reduceIte,reduceEqDiff,reduceAdd,reduceMul,reduceSub,reduceLeDiff,reduceLT,Nat.reduceBEq,reduceCtorEq]
noncomputable def p73:List AV→Option AV:=primOf (α:=(Nm)) (fun x=>[.str x]) (fun x=>True) (fun x=>i64 (whenI (!nameB x) 8))
theorem pok73:∀ args v,p73 args=some v → ∀ lo H,CallOk NC lo 73 args H v H:=by
 intro args v h
 obtain ⟨x,rfl,hp,rfl⟩:=primOf_inv h
 exact c73 x
theorem pe73 (s:Nm):p73 [.str s]=some (.int .i64 (whenI (!nameB s) 8)):=primOf_enc (by intro x y h;(simp only [List.cons.injEq,AV.agg.injEq,AV.str.injEq,AV.int.injEq,AV.ps.injEq,AV.bool.injEq,true_and,and_true] at h;first | simpa only [Prod.ext_iff] using h | simpa only [Prod.ext_iff,and_assoc] using h)) s trivial
attribute [go_sem] pe73
noncomputable def PPF75:FuncId→Option (List AV→Option AV):=addPrim 71 p71 (fun _=>none)
theorem primsF75:PrimsOk NC PPF75:=primsOk_add (primsOk_none) (by kernel_rfl) (by kernel_rfl) pok71
theorem enF75_71:En PPF75 71 p71:=enter_prim (by rfl) (by kernel_rfl)
attribute [go_sem ↓] enF75_71
theorem c75 (n:Int):∀ lo H,CallOk NC lo 75 [i64 n] H (i64 (withinI n 0 999999999)) H:=by
 refine contract saneNC primsF75 (fn:=Tryz.f75) (by kernel_rfl) Tryz.func75 rfl rfl (by rfl) (by first | rfl | (split<;>first | rfl | (split<;>rfl))) ?_
 simp (config:={ maxDischargeDepth:=12 }) only [go_sem,reduceIte,reduceEqDiff,reduceAdd,reduceMul,reduceSub,reduceLeDiff,reduceLT,Nat.reduceBEq,reduceCtorEq]
noncomputable def p75:List AV→Option AV:=primOf (α:=(Int)) (fun x=>[i64 x]) (fun x=>True) (fun x=>i64 (withinI x 0 999999999))
theorem pok75:∀ args v,p75 args=some v → ∀ lo H,CallOk NC lo 75 args H v H:=by
 intro args v h
 obtain ⟨x,rfl,hp,rfl⟩:=primOf_inv h
 exact c75 x
theorem pe75 (n:Int):p75 [.int .i64 n]=some (.int .i64 (withinI n 0 999999999)):=primOf_enc (by intro x y h;(simp only [List.cons.injEq,AV.agg.injEq,AV.str.injEq,AV.int.injEq,AV.ps.injEq,AV.bool.injEq,true_and,and_true] at h;first | simpa only [Prod.ext_iff] using h | simpa only [Prod.ext_iff,and_assoc] using h)) n trivial
attribute [go_sem] pe75
def nmErr (s:Nm):Int:=whenI (!nameB s) 8
def vlErr (n:Int):Int:=withinI n 0 999999999
theorem ints_take {α:Type} {u:α→Int} {l:List α} {k:Nat} {x:α} (h:l[k]? = some x):ints ((l.take (k+1)).map u)=ints ((l.take k).map u)++[[i64 (u x)]]:=by
 rw [take_map h];unfold ints;rw [List.map_append];rfl
noncomputable def PPF72:FuncId→Option (List AV→Option AV):=addPrim 73 p73 (fun _=>none)
theorem primsF72:PrimsOk NC PPF72:=primsOk_add (primsOk_none) (by kernel_rfl) (by kernel_rfl) pok73
theorem enF72_73:En PPF72 73 p73:=enter_prim (by rfl) (by kernel_rfl)
attribute [go_sem ↓] enF72_73
theorem c72 (l:List Nm) (hp:l.length≤maxRows):∀ lo H,CallOk NC lo 72 [.ps .unk (strs l),.fn 73 [] []] H (.ps .unk (ints (l.map nmErr))) H:=by
 refine contract saneNC primsF72 (fn:=Tryz.f72) (by kernel_rfl) Tryz.func72 rfl rfl (by rfl) (by first | rfl | (split<;>first | rfl | (split<;>rfl))) ?_
 simp (config:={ maxDischargeDepth:=12 }) only [go_sem,reduceIte,reduceEqDiff,reduceAdd,reduceMul,reduceSub,reduceLeDiff,reduceLT,Nat.reduceBEq,reduceCtorEq]
 refine W_for (fun k T H M=>M=[]∧getT T 1=.fn 73 [] []∧getT T 8=.ps .unk (strs l)∧getT T 9=i64 (l.length:Nat)∧getT T 10=i64 k ∧ ∃ t,getT T 5=.ps t (ints ((l.take k).map nmErr))∧AppB 0 H t (ints ((l.take k).map nmErr)) 1 39) l.length ?_ ?_ ?_
 · simp (config:={ maxDischargeDepth:=12 }) only [go_sem,reduceIte,reduceEqDiff,reduceAdd,reduceMul,reduceSub,reduceLeDiff,reduceLT,Nat.reduceBEq,reduceCtorEq,strs_len];exact ⟨.nil,rfl,.inl ⟨rfl,rfl⟩⟩
 · rintro k T H M hk ⟨rfl,g1,g8,g9,g10,t,g5,hA⟩
   obtain ⟨x,hx⟩:∃ x,l[k]? = some x:=⟨l[k],by simp⟩
   have hr:=strs_at hx
   have hw:=wrap_succ hk hp
   obtain ⟨t',H',ha,hA',_⟩:=app_b (lo:=0) hA (Nat.zero_le _) (Nat.le_refl _) (r:=[i64 (nmErr x)]) (by rw [ints_len,List.length_map,List.length_take];omega) rfl (by decide) (ints_all _)
   have e1:[AV.int .i64 (nmErr x)].map AV.strip0=[i64 (nmErr x)]:=rfl
   rw [e1,← ints_take hx] at ha hA'
   have e2:whenI (!nameB x) 8=nmErr x:=rfl
   simp (config:={ maxDischargeDepth:=12 }) only [go_sem,reduceIte,reduceEqDiff,reduceAdd,reduceMul,reduceSub,reduceLeDiff,reduceLT,Nat.reduceBEq,reduceCtorEq,g1,g5,g8,g9,g10,hk,strs_len,hr,hw,e2,appO,ha]
   exact ⟨t',rfl,hA'⟩
 · rintro T H M ⟨rfl,g1,g8,g9,g10,t,g5,hA⟩
   rw [List.take_length] at g5
   simp (config:={ maxDischargeDepth:=12 }) only [go_sem,reduceIte,reduceEqDiff,reduceAdd,reduceMul,reduceSub,reduceLeDiff,reduceLT,Nat.reduceBEq,reduceCtorEq,g1,g5,g8,g9,g10,Nat.lt_irrefl]
noncomputable def p72:List AV→Option AV:=primOf (α:=(List Nm)) (fun x=>[.ps .unk (strs x),.fn 73 [] []]) (fun x=>x.length≤maxRows) (fun x=>.ps .unk (ints (x.map nmErr)))
theorem pok72:∀ args v,p72 args=some v → ∀ lo H,CallOk NC lo 72 args H v H:=by
 intro args v h
 obtain ⟨x,rfl,hp,rfl⟩:=primOf_inv h
 exact c72 x hp
theorem pe72 (l:List Nm) (hp:l.length≤maxRows):p72 [.ps .unk (strs l),.fn 73 [] []]=some (.ps .unk (ints (l.map nmErr))):=primOf_enc (by intro x y h;(simp only [List.cons.injEq,AV.agg.injEq,AV.str.injEq,AV.int.injEq,AV.ps.injEq,AV.bool.injEq,strs_inj,ints_inj,true_and,and_true] at h;first | simpa only [Prod.ext_iff] using h | simpa only [Prod.ext_iff,and_assoc] using h)) l hp
attribute [go_sem] pe72
noncomputable def PPF74:FuncId→Option (List AV→Option AV):=addPrim 75 p75 (fun _=>none)
theorem primsF74:PrimsOk NC PPF74:=primsOk_add (primsOk_none) (by kernel_rfl) (by kernel_rfl) pok75
theorem enF74_75:En PPF74 75 p75:=enter_prim (by rfl) (by kernel_rfl)
attribute [go_sem ↓] enF74_75
theorem c74 (l:List Int) (hp:l.length≤maxRows):∀ lo H,CallOk NC lo 74 [.ps .unk (ints l),.fn 75 [] []] H (.ps .unk (ints (l.map vlErr))) H:=by
 refine contract saneNC primsF74 (fn:=Tryz.f74) (by kernel_rfl) Tryz.func74 rfl rfl (by rfl) (by first | rfl | (split<;>first | rfl | (split<;>rfl))) ?_
 simp (config:={ maxDischargeDepth:=12 }) only [go_sem,reduceIte,reduceEqDiff,reduceAdd,reduceMul,reduceSub,reduceLeDiff,reduceLT,Nat.reduceBEq,reduceCtorEq]
 refine W_for (fun k T H M=>M=[]∧getT T 1=.fn 75 [] []∧getT T 8=.ps .unk (ints l)∧getT T 9=i64 (l.length:Nat)∧getT T 10=i64 k ∧ ∃ t,getT T 5=.ps t (ints ((l.take k).map vlErr))∧AppB 0 H t (ints ((l.take k).map vlErr)) 1 39) l.length ?_ ?_ ?_
 · simp (config:={ maxDischargeDepth:=12 }) only [go_sem,reduceIte,reduceEqDiff,reduceAdd,reduceMul,reduceSub,reduceLeDiff,reduceLT,Nat.reduceBEq,reduceCtorEq,ints_len];exact ⟨.nil,rfl,.inl ⟨rfl,rfl⟩⟩
 · rintro k T H M hk ⟨rfl,g1,g8,g9,g10,t,g5,hA⟩
   obtain ⟨x,hx⟩:∃ x,l[k]? = some x:=⟨l[k],by simp⟩
   have hr:=ints_at hx
   have hw:=wrap_succ hk hp
   obtain ⟨t',H',ha,hA',_⟩:=app_b (lo:=0) hA (Nat.zero_le _) (Nat.le_refl _) (r:=[i64 (vlErr x)]) (by rw [ints_len,List.length_map,List.length_take];omega) rfl (by decide) (ints_all _)
   have e1:[AV.int .i64 (vlErr x)].map AV.strip0=[i64 (vlErr x)]:=rfl
   rw [e1,← ints_take hx] at ha hA'
   have e2:withinI x 0 999999999=vlErr x:=rfl
   simp (config:={ maxDischargeDepth:=12 }) only [go_sem,reduceIte,reduceEqDiff,reduceAdd,reduceMul,reduceSub,reduceLeDiff,reduceLT,Nat.reduceBEq,reduceCtorEq,g1,g5,g8,g9,g10,hk,ints_len,hr,hw,e2,appO,ha]
   exact ⟨t',rfl,hA'⟩
 · rintro T H M ⟨rfl,g1,g8,g9,g10,t,g5,hA⟩
   rw [List.take_length] at g5
   simp (config:={ maxDischargeDepth:=12 }) only [go_sem,reduceIte,reduceEqDiff,reduceAdd,reduceMul,reduceSub,reduceLeDiff,reduceLT,Nat.reduceBEq,reduceCtorEq,g1,g5,g8,g9,g10,Nat.lt_irrefl]
noncomputable def p74:List AV→Option AV:=primOf (α:=(List Int)) (fun x=>[.ps .unk (ints x),.fn 75 [] []]) (fun x=>x.length≤maxRows) (fun x=>.ps .unk (ints (x.map vlErr)))
theorem pok74:∀ args v,p74 args=some v → ∀ lo H,CallOk NC lo 74 args H v H:=by
 intro args v h
 obtain ⟨x,rfl,hp,rfl⟩:=primOf_inv h
 exact c74 x hp
theorem pe74 (l:List Int) (hp:l.length≤maxRows):p74 [.ps .unk (ints l),.fn 75 [] []]=some (.ps .unk (ints (l.map vlErr))):=primOf_enc (by intro x y h;(simp only [List.cons.injEq,AV.agg.injEq,AV.str.injEq,AV.int.injEq,AV.ps.injEq,AV.bool.injEq,ints_inj,true_and,and_true] at h;first | simpa only [Prod.ext_iff] using h | simpa only [Prod.ext_iff,and_assoc] using h)) l hp
attribute [go_sem] pe74
def findS (s:Nm):List (AV × AV)→Option Bool
 | []=>some false
 | (.str k,_)::r=>cond (beqL s k) (some true) (findS s r)
 | _=>none
def lkS (s:Nm):List (AV × AV)→Option AV
 | []=>none
 | (.str k,v)::r=>if s=k then some v else lkS s r
 | _=>none
theorem keyS (s:Nm):keyOk NC.P 9 (.str s)=true:=by
 unfold keyOk
 have h1:eqType NC.P 100 9=true:=by kernel_rfl
 have h2:aeqT NC.P 100 9 (.str s) (.str s)=some (beqL s s):=by
  unfold aeqT
  rw [un_9]
 rw [h1,h2,beqL_dec]
 simp
theorem afindS (s:Nm):∀ (es:List (AV × AV)) (i:Nat),(findS s es=some false→afind NC.P 9 (.str s) es i=some none)
 | [],i,_=>rfl
 | (k,v)::r,i,h=>by
   unfold findS at h
   split at h
   · rename_i h1;cases h1
   · rename_i k' v' r' h1
     cases h1
     have hu:afind NC.P 9 (.str s) ((.str k',v)::r) i=match aeqT NC.P 100 9 (.str s) (.str k') with
      | some true=>some (some (i,.str k',v))
      | some false=>afind NC.P 9 (.str s) r (i+1)
      | none=>none:=rfl
     have h2:aeqT NC.P 100 9 (.str s) (.str k')=some (beqL s k'):=by
      unfold aeqT
      rw [un_9]
     rw [hu,h2]
     cases hb:beqL s k' with
     | true=>rw [hb] at h;cases h
     | false =>
       rw [hb] at h
       exact afindS s r (i+1) h
   · cases h
theorem afindL (s:Nm):∀ (es:List (AV × AV)) (i:Nat),(∀ x ∈ es,∃ k,x.1=.str k)→(lkS s es=none→afind NC.P 9 (.str s) es i=some none) ∧ ∀ v,lkS s es=some v → ∃ j k,afind NC.P 9 (.str s) es i=some (some (j,k,v))
 | [],i,_=>⟨fun _=>rfl,fun v h=>by cases h⟩
 | (k,v)::r,i,hk=>by
   obtain ⟨k',rfl⟩:∃ k',k=.str k':=hk (k,v) (by simp)
   have ih:=afindL s r (i+1) fun x hx=>hk x (by simp [hx])
   have hu:afind NC.P 9 (.str s) ((.str k',v)::r) i=match aeqT NC.P 100 9 (.str s) (.str k') with
    | some true=>some (some (i,.str k',v))
    | some false=>afind NC.P 9 (.str s) r (i+1)
    | none=>none:=rfl
   have h2:aeqT NC.P 100 9 (.str s) (.str k')=some (beqL s k'):=by
    unfold aeqT
    rw [un_9]
   have hl:lkS s ((.str k',v)::r)=if s=k' then some v else lkS s r:=rfl
   rw [hu,h2,hl,beqL_dec]
   by_cases h:s=k'
   · rw [if_pos h]
     simp only [h,decide_true]
     exact ⟨fun h=>(by cases h),fun v' h=>by cases h;exact ⟨_,_,rfl⟩⟩
   · rw [if_neg h]
     simp only [h,decide_false]
     exact ih
def amapU:=@amapUpdate
def insF (f:Option Bool) (H:Heap) (m:Nat) (es:List (AV × AV)) (s:Nm) (v:AV) (alt:Prop) (K:Heap→Prop) (_t:Tag K:=⟨⟩):Prop:=match f with
 | some false=>K (H.set m (.map (es++[(.str s,v)])))
 | _=>alt
theorem insF_false (H:Heap) (m:Nat) (es:List (AV × AV)) (s:Nm) (v:AV) (alt:Prop) (K:Heap→Prop):insF (some false) H m es s v alt K=K (H.set m (.map (es++[(.str s,v)]))):=rfl
def insB (b:ABlk) (H:Heap) (m:Nat) (s:Nm) (v:AV) (alt:Prop) (K:Heap→Prop) (_t:Tag K:=⟨⟩):Prop:=match b with
 | .map es=>insF (findS s es) H m es s v alt K
 | _=>alt
theorem insB_map (es:List (AV × AV)) (H:Heap) (m:Nat) (s:Nm) (v:AV) (alt:Prop) (K:Heap→Prop):insB (.map es) H m s v alt K=insF (findS s es) H m es s v alt K:=rfl
def insL (le:Prop) [Decidable le] (H:Heap) (m:Nat) (s:Nm) (v:AV) (alt:Prop) (K:Heap→Prop) (_t:Tag K:=⟨⟩):Prop:=if le then insB (H.get m) H m s v alt K else alt
theorem insL_true (H:Heap) (m:Nat) (s:Nm) (v:AV) (alt:Prop) (K:Heap→Prop):insL True H m s v alt K=insB (H.get m) H m s v alt K:=by unfold insL;rw [if_pos trivial]
theorem ins_S (lo:Nat) (H:Heap) (m:Nat) (s:Nm) (v:AV) (K:Heap→Prop):AO (amapUpdate NC.P lo H 151 (.map m) (.str s) v) K=insL (lo≤m) H m s v.strip (AO (amapU NC.P lo H 151 (.map m) (.str s) v) K) K:=by
 unfold insL
 split
 · rename_i hlo
   unfold insB
   split
   · rename_i es hg
     unfold insF
     split
     · rename_i hf
       have e:amapUpdate NC.P lo H 151 (.map m) (.str s) v=some (H.set m (.map (es++[(.str s,v.strip)]))):=by
        unfold amapUpdate
        rw [un_151]
        simp only [keyS,hlo,decide_true,Bool.and_true,if_true,hg,afindS s es 0 hf]
       rw [e];rfl
     · rfl
   · rfl
 · rfl
theorem op_insert {C:Cfg} {rec:Rec} {fid lo:Nat} {T:TT AV} {H:Heap} {K:AV→Heap→Prop} {d:Option Tmp} {t:TypeId} {p:String} {af:Array Edge} {gd:Option (Nat × Bool)} (t':TypeId) (m k x:Operand):VO (aop C rec fid lo ⟨d,.insert t' m k x,t,p,af,gd⟩ T H) K=AO (evalO C T m) fun m=>AO (evalO C T k) fun k=>AO (evalO C T x) fun x=>AO (amapUpdate C.P lo H t' m k x) fun H=>K aundef H :=
 op_mapUpdate (C:=C) (rec:=rec) (fid:=fid) (lo:=lo) (T:=T) (H:=H) (K:=K) (d:=d) (t:=t) (p:=p) (af:=af) (gd:=gd) t' m k x
attribute [go_sem ↓] ins_S insL_true insB_map insF_false op_insert
theorem look_S {H:Heap} {m:Nat} {es:List (AV × AV)} (hg:H.get m=.map es) (hk:∀ x ∈ es,∃ k,x.1=.str k) (s:Nm):alookup NC.P H 151 (.map m) (.str s) true=some (match lkS s es with
 | some v=>.tup [v,.bool true]
 | none=>.tup [.agg [.str [],i64 0,.nilf,.nilf],.bool false])∧alookup NC.P H 151 (.map m) (.str s) false=some (match lkS s es with
 | some v=>v
 | none=>.agg [.str [],i64 0,.nilf,.nilf]):=by
 have hl:=afindL s es 0 hk
 have hz:zeroOf NC.P 149=some (.agg [.str [],i64 0,.nilf,.nilf]):=by kernel_rfl
 have hm:mapEntries H (.map m)=some es:=by unfold mapEntries;simp only [hg]
 unfold alookup
 rw [un_151]
 simp only [keyS,if_true,hz,hm]
 cases hv:lkS s es with
 | none =>
   rw [hl.1 hv]
   exact ⟨rfl,rfl⟩
 | some v =>
   obtain ⟨j,k,e⟩:=hl.2 v hv
   rw [e]
   exact ⟨rfl,rfl⟩
end Go.Sim

namespace Go.Sim
open Go Go.Proofs
open Go.Sim.Pos (Nm Trk Flt Trn Pos Mch Reg Ev)
set_option maxRecDepth 100000
set_option maxHeartbeats 4000000
theorem en70 {P:FuncId→Option (List AV→Option AV)} (hP:P 70=none) {lo:Nat} {args:List AV} {H:Heap} {K:AV→Heap→Prop}:VO (aenter (NC.withPrims P) (R (NC.withPrims P)) lo 70 args H) K=AO (R (NC.withPrims P) (.call H.n 70 args H)) fun o=>K o.val o.s.H:=by
 refine enter_fresh rfl ?_ (by kernel_rfl) (by kernel_rfl) (by kernel_rfl)
 show (match NC.prim 70 with | some p=>some p | none=>P 70)=none
 rw [hP];kernel_rfl
theorem en115 {P:FuncId→Option (List AV→Option AV)} (hP:P 115=none) {lo:Nat} {args:List AV} {H:Heap} {K:AV→Heap→Prop}:VO (aenter (NC.withPrims P) (R (NC.withPrims P)) lo 115 args H) K=AO (R (NC.withPrims P) (.call H.n 115 args H)) fun o=>K o.val o.s.H:=by
 refine enter_fresh rfl ?_ (by kernel_rfl) (by kernel_rfl) (by kernel_rfl)
 show (match NC.prim 115 with | some p=>some p | none=>P 115)=none
 rw [hP];kernel_rfl
theorem en117 {P:FuncId→Option (List AV→Option AV)} (hP:P 117=none) {lo:Nat} {args:List AV} {H:Heap} {K:AV→Heap→Prop}:VO (aenter (NC.withPrims P) (R (NC.withPrims P)) lo 117 args H) K=AO (R (NC.withPrims P) (.call H.n 117 args H)) fun o=>K o.val o.s.H:=by
 refine enter_fresh rfl ?_ (by kernel_rfl) (by kernel_rfl) (by kernel_rfl)
 show (match NC.prim 117 with | some p=>some p | none=>P 117)=none
 rw [hP];kernel_rfl
section
variable {P:FuncId→Option (List AV→Option AV)} {lo:Nat} {H:Heap}
theorem r_inOpen (g:FuncId):R (NC.withPrims P) (.call lo 115 [.fn g [] []] H)=some (.ofVal (.fn 145 [] [.ptr H.n 0]) (H.push (.cells [.fn g [] []] 184))):=by
 obtain ⟨v,H',h1,rfl,rfl⟩:=R_of_body (C:=NC.withPrims P) (f:=115) (lo:=lo) (args:=[.fn g [] []]) (H:=H) (fn:=Tryz.f115) (Q:=fun v H'=>v=.fn 145 [] [.ptr H.n 0]∧H'=H.push (.cells [.fn g [] []] 184)) (by kernel_rfl) Tryz.func115 rfl rfl (by
  simp (config:={ maxDischargeDepth:=12 }) only [go_sem,reduceIte,reduceEqDiff,reduceAdd,reduceMul,reduceSub,reduceLeDiff,reduceLT,Nat.reduceBEq,reduceCtorEq])
 exact h1
theorem r_onPossession (g:FuncId):R (NC.withPrims P) (.call lo 117 [.fn g [] []] H)=some (.ofVal (.fn 146 [] [.ptr H.n 0]) (H.push (.cells [.fn g [] []] 186))):=by
 obtain ⟨v,H',h1,rfl,rfl⟩:=R_of_body (C:=NC.withPrims P) (f:=117) (lo:=lo) (args:=[.fn g [] []]) (H:=H) (fn:=Tryz.f117) (Q:=fun v H'=>v=.fn 146 [] [.ptr H.n 0]∧H'=H.push (.cells [.fn g [] []] 186)) (by kernel_rfl) Tryz.func117 rfl rfl (by
  simp (config:={ maxDischargeDepth:=12 }) only [go_sem,reduceIte,reduceEqDiff,reduceAdd,reduceMul,reduceSub,reduceLeDiff,reduceLT,Nat.reduceBEq,reduceCtorEq])
 exact h1
end
def formsM (n:Nat):List (AV × AV):=[
 (.str Pos.kTrack,.agg [.str [84],i64 2,.fn 97 [] [],.fn 98 [] []]),
 (.str Pos.kFault,.agg [.str [70,116],i64 4,.fn 99 [] [],.fn 101 [] []]),
 (.str Pos.kAnswer,.agg [.str [102],i64 1,.fn 102 [] [],.fn 104 [] []]),
 (.str Pos.kRepair,.agg [.str [102,112],i64 1,.fn 105 [] [],.fn 106 [] []]),
 (.str Pos.kEnter,.agg [.str [82,116],i64 2,.fn 107 [] [],.fn 108 [] []]),
 (.str Pos.kLeave,.agg [.str [114],i64 1,.fn 109 [] [],.fn 110 [] []]),
 (.str Pos.kTake,.agg [.str [80,116],i64 3,.fn 113 [] [],.fn 114 [] []]),
 (.str Pos.kProtect,.agg [.str [112],i64 1,.fn 145 [] [.ptr (n+1) 0],.fn 146 [] [.ptr (n+2) 0]]),
 (.str Pos.kClear,.agg [.str [112],i64 1,.fn 145 [] [.ptr (n+3) 0],.fn 146 [] [.ptr (n+4) 0]]),
 (.str Pos.kIn,.agg [.str [77,112],i64 1,.fn 145 [] [.ptr (n+5) 0],.fn 123 [] []]),
 (.str Pos.kOut,.agg [.str [109],i64 1,.fn 109 [] [],.fn 124 [] []]),
 (.str Pos.kStaff,.agg [.str [112],i64 2,.fn 145 [] [.ptr (n+6) 0],.fn 146 [] [.ptr (n+7) 0]]),
 (.str Pos.kOff,.agg [.str [112],i64 2,.fn 145 [] [.ptr (n+8) 0],.fn 146 [] [.ptr (n+9) 0]]),
 (.str Pos.kOpen,.agg [.str [112],i64 1,.fn 145 [] [.ptr (n+10) 0],.fn 146 [] [.ptr (n+11) 0]]),
 (.str Pos.kClose,.agg [.str [112],i64 2,.fn 145 [] [.ptr (n+12) 0],.fn 146 [] [.ptr (n+13) 0]]),
 (.str Pos.kReturn,.agg [.str [112],i64 1,.fn 145 [] [.ptr (n+14) 0],.fn 146 [] [.ptr (n+15) 0]]),
 (.str Pos.kRaise,.agg [.str [112],i64 2,.fn 138 [] [],.fn 146 [] [.ptr (n+16) 0]]),
 (.str Pos.kUndo,.agg [.str [],i64 0,.fn 109 [] [],.fn 141 [] []])]
def boxM (j:Nat):ABlk:=match j with
 | 1=>.cells [.fn 116 [] []] 184
 | 2=>.cells [.fn 118 [] []] 186
 | 3=>.cells [.fn 119 [] []] 184
 | 4=>.cells [.fn 121 [] []] 186
 | 5=>.cells [.fn 122 [] []] 184
 | 6=>.cells [.fn 127 [] []] 184
 | 7=>.cells [.fn 128 [] []] 186
 | 8=>.cells [.fn 129 [] []] 184
 | 9=>.cells [.fn 130 [] []] 186
 | 10=>.cells [.fn 131 [] []] 184
 | 11=>.cells [.fn 132 [] []] 186
 | 12=>.cells [.fn 133 [] []] 184
 | 13=>.cells [.fn 134 [] []] 186
 | 14=>.cells [.fn 135 [] []] 184
 | 15=>.cells [.fn 137 [] []] 186
 | 16=>.cells [.fn 140 [] []] 186
 | _=>.dead
structure FormsAt (n:Nat) (H:Heap):Prop where
 map:H.get n=.map (formsM n)
 box:∀ j,1≤j→j≤16→H.get (n+j)=boxM j
theorem r_forms {P:FuncId→Option (List AV→Option AV)} (h1:P 115=none) (h2:P 117=none) (lo:Nat) (H:Heap) (hlo:lo≤H.n):∃ H',R (NC.withPrims P) (.call lo 70 [] H)=some (.ofVal (.map H.n) H')∧H'.n=H.n+17∧(∀ i,i < H.n→H'.get i=H.get i)∧FormsAt H.n H':=by
 obtain ⟨v,H',h1,rfl,h2⟩:=R_of_body (C:=NC.withPrims P) (f:=70) (lo:=lo) (args:=[]) (H:=H) (fn:=Tryz.f70) (Q:=fun v H'=>v=.map H.n∧H'.n=H.n+17∧(∀ i,i < H.n→H'.get i=H.get i)∧FormsAt H.n H') (by kernel_rfl) Tryz.func70 rfl rfl (by
  have hl:=eq_true hlo
  simp (config:={ maxDischargeDepth:=12 }) only [go_sem,reduceIte,reduceEqDiff,reduceAdd,reduceMul,reduceSub,reduceLeDiff,reduceLT,Nat.reduceBEq,reduceCtorEq,en115 h1,en117 h2,r_inOpen,r_onPossession,hl,findS,beqL_dec,List.cons.injEq,false_and,and_false,decide_false,cond_true,cond_false,Nat.add_assoc,reduceAdd,self_eq_add,add_eq_self,Nat.add_left_cancel_iff]
  refine ⟨fun i hi => ?_, ?_,fun j h1 h2 => ?_⟩
  · have e0:(i=H.n)=False:=by simp only [eq_iff_iff,iff_false];omega
    have e1:∀ k,(i=H.n+k)=False:=fun k=>by simp only [eq_iff_iff,iff_false];omega
    simp only [e0,e1,if_false]
  · simp only [Heap.get_set,Heap.get_push,hn_set,hn_push,Nat.add_assoc,reduceAdd,self_eq_add,add_eq_self,Nat.add_left_cancel_iff,reduceEqDiff,if_true,if_false]
    rfl
  · have hj:j=1∨j=2∨j=3∨j=4∨j=5∨j=6∨j=7∨j=8∨j=9∨j=10∨j=11∨j=12∨j=13∨j=14∨j=15∨j=16:=by omega
    rcases hj with rfl | rfl | rfl | rfl | rfl | rfl | rfl | rfl | rfl | rfl | rfl | rfl | rfl | rfl | rfl | rfl
    all_goals
     simp only [Heap.get_set,Heap.get_push,hn_set,hn_push,Nat.add_assoc,reduceAdd,self_eq_add,add_eq_self,Nat.add_left_cancel_iff,reduceEqDiff,if_true,if_false]
     rfl)
 exact ⟨H',h1,h2⟩
theorem lk_form (k:Nm) (n:Nat):(Pos.formE k=none∧lkS k (formsM n)=none) ∨ ∃ a b nm f1 l1 f2 l2,Pos.formE k=some (a,b)∧lkS k (formsM n)=some (.agg [.str nm,i64 (b:Nat),.fn f1 [] l1,.fn f2 [] l2])∧nm.length=a:=by
 by_cases h0:k=Pos.kTrack
 · subst h0;exact .inr ⟨_,_,_,_,_,_,_,rfl,rfl,rfl⟩
 by_cases h1:k=Pos.kFault
 · subst h1;exact .inr ⟨_,_,_,_,_,_,_,rfl,rfl,rfl⟩
 by_cases h2:k=Pos.kAnswer
 · subst h2;exact .inr ⟨_,_,_,_,_,_,_,rfl,rfl,rfl⟩
 by_cases h3:k=Pos.kRepair
 · subst h3;exact .inr ⟨_,_,_,_,_,_,_,rfl,rfl,rfl⟩
 by_cases h4:k=Pos.kEnter
 · subst h4;exact .inr ⟨_,_,_,_,_,_,_,rfl,rfl,rfl⟩
 by_cases h5:k=Pos.kLeave
 · subst h5;exact .inr ⟨_,_,_,_,_,_,_,rfl,rfl,rfl⟩
 by_cases h6:k=Pos.kTake
 · subst h6;exact .inr ⟨_,_,_,_,_,_,_,rfl,rfl,rfl⟩
 by_cases h7:k=Pos.kProtect
 · subst h7;exact .inr ⟨_,_,_,_,_,_,_,rfl,rfl,rfl⟩
 by_cases h8:k=Pos.kClear
 · subst h8;exact .inr ⟨_,_,_,_,_,_,_,rfl,rfl,rfl⟩
 by_cases h9:k=Pos.kIn
 · subst h9;exact .inr ⟨_,_,_,_,_,_,_,rfl,rfl,rfl⟩
 by_cases h10:k=Pos.kOut
 · subst h10;exact .inr ⟨_,_,_,_,_,_,_,rfl,rfl,rfl⟩
 by_cases h11:k=Pos.kStaff
 · subst h11;exact .inr ⟨_,_,_,_,_,_,_,rfl,rfl,rfl⟩
 by_cases h12:k=Pos.kOff
 · subst h12;exact .inr ⟨_,_,_,_,_,_,_,rfl,rfl,rfl⟩
 by_cases h13:k=Pos.kOpen
 · subst h13;exact .inr ⟨_,_,_,_,_,_,_,rfl,rfl,rfl⟩
 by_cases h14:k=Pos.kClose
 · subst h14;exact .inr ⟨_,_,_,_,_,_,_,rfl,rfl,rfl⟩
 by_cases h15:k=Pos.kReturn
 · subst h15;exact .inr ⟨_,_,_,_,_,_,_,rfl,rfl,rfl⟩
 by_cases h16:k=Pos.kRaise
 · subst h16;exact .inr ⟨_,_,_,_,_,_,_,rfl,rfl,rfl⟩
 by_cases h17:k=Pos.kUndo
 · subst h17;exact .inr ⟨_,_,_,_,_,_,_,rfl,rfl,rfl⟩
 refine .inl ⟨?_, ?_⟩
 · unfold Pos.formE
   simp only [h0,h1,h2,h3,h4,h5,h6,h7,h8,h9,h10,h11,h12,h13,h14,h15,h16,h17,if_false]
 · unfold formsM
   simp only [lkS,h0,h1,h2,h3,h4,h5,h6,h7,h8,h9,h10,h11,h12,h13,h14,h15,h16,h17,if_false]
theorem keys_forms (n:Nat):∀ x ∈ formsM n,∃ k,x.1=.str k:=by
 intro x hx
 unfold formsM at hx
 simp only [List.mem_cons,List.not_mem_nil,or_false] at hx
 rcases hx with h | h | h | h | h | h | h | h | h | h | h | h | h | h | h | h | h | h<;>subst h<;>exact ⟨_,rfl⟩
theorem first_names (l:List Nm):firstI (l.map nmErr)=if l.all nameB=false then 8 else 0:=by
 induction l with
 | nil=>rfl
 | cons a r ih =>
   rw [List.map_cons,List.all_cons]
   show (if nmErr a=0 then firstI (r.map nmErr) else nmErr a)=_
   rw [ih]
   cases h:nameB a<;>simp [nmErr,whenI,h]
theorem first_vals (l:List Int):firstI (l.map vlErr)=if l.any (fun v=>decide (v < 0) || decide (999999999 < v))=true then 3 else 0:=by
 induction l with
 | nil=>rfl
 | cons a r ih =>
   rw [List.map_cons,List.any_cons]
   show (if vlErr a=0 then firstI (r.map vlErr) else vlErr a)=_
   rw [ih]
   cases h:(decide (a < 0) || decide (999999999 < a))<;>simp [vlErr,withinI,whenI,h]
def chkA (e:Ev):Int:=firstI [withinI e.num 1 1000,whenI (Pos.formE e.kind).isNone 13,match Pos.formE e.kind with
 | none=>0
 | some (a,b)=>whenI (decide (e.names.length ≠ a) || decide (e.vals.length ≠ b)) 2]
def chkB (e:Ev):Int:=firstI [firstI (e.names.map nmErr),firstI (e.vals.map vlErr),whenI (!decide (e.text=[])) 1]
theorem chk_eq (e:Ev):Pos.chkE nameB e=if chkA e=0 then chkB e else chkA e:=by
 unfold Pos.chkE chkA chkB
 rw [first_names,first_vals]
 by_cases h1:e.num < 1∨1000 < e.num
 · rw [if_pos h1]
   have:withinI e.num 1 1000=3:=by
    unfold withinI whenI
    rcases h1 with h | h<;>simp [h]
   simp [this,firstI]
 rw [if_neg h1]
 have h1:withinI e.num 1 1000=0:=by
  unfold withinI whenI
  simp;omega
 rw [h1]
 cases hf:Pos.formE e.kind with
 | none=>simp [firstI,whenI]
 | some x =>
   obtain ⟨a,b⟩:=x
   simp only [Option.isNone_some]
   by_cases h2:e.names.length ≠ a∨e.vals.length ≠ b
   · rw [if_pos h2]
     have:(decide (e.names.length ≠ a) || decide (e.vals.length ≠ b))=true:=by
      rw [Bool.or_eq_true,decide_eq_true_eq,decide_eq_true_eq];exact h2
     rw [this]
     simp [firstI,whenI]
   · rw [if_neg h2]
     have:(decide (e.names.length ≠ a) || decide (e.vals.length ≠ b))=false:=by simpa using h2
     simp only [firstI,whenI,this]
     by_cases h3:e.names.all nameB=false<;>by_cases h4:(e.vals.any fun v=>decide (v < 0) || decide (999999999 < v))=true<;>by_cases h5:e.text=[]<;>simp [h3,h4,h5]
noncomputable def PPF45:FuncId→Option (List AV→Option AV):=addPrim 74 p74 (addPrim 72 p72 (addPrim 40 p40 (addPrim 41 p41 (addPrim 71 p71 (fun _=>none)))))
theorem primsF45:PrimsOk NC PPF45:=primsOk_add (primsOk_add (primsOk_add (primsOk_add (primsOk_add (primsOk_none) (by kernel_rfl) (by kernel_rfl) pok71) (by kernel_rfl) (by kernel_rfl) pok41) (by kernel_rfl) (by kernel_rfl) pok40) (by kernel_rfl) (by kernel_rfl) pok72) (by kernel_rfl) (by kernel_rfl) pok74
theorem enF45_71:En PPF45 71 p71:=enter_prim (by rfl) (by kernel_rfl)
theorem enF45_41:En PPF45 41 p41:=enter_prim (by rfl) (by kernel_rfl)
theorem enF45_40:En PPF45 40 p40:=enter_prim (by rfl) (by kernel_rfl)
theorem enF45_72:En PPF45 72 p72:=enter_prim (by rfl) (by kernel_rfl)
theorem enF45_74:En PPF45 74 p74:=enter_prim (by rfl) (by kernel_rfl)
attribute [go_sem ↓] enF45_71 enF45_41 enF45_40 enF45_72 enF45_74
theorem c45 (e:Ev) (hp:e.names.length≤maxRows∧e.vals.length≤maxRows):∀ lo H,CallOk NC lo 45 [.agg e.row] H (i64 (Pos.chkE nameB e)) H:=by
 refine contract saneNC primsF45 (fn:=Tryz.f45) (by kernel_rfl) Tryz.func45 rfl rfl (by rfl) (by first | rfl | (split<;>first | rfl | (split<;>rfl))) ?_
 obtain ⟨hn,hv⟩:=hp
 obtain ⟨num,kind,names,vals,text⟩:=e
 obtain ⟨H',hr,hn',hk,hF⟩:=r_forms (P:=PPF45) (by rfl) (by rfl) 1 (Heap.empty.push (.cells (Pos.Ev.row ⟨num,kind,names,vals,text⟩) 70)) (Nat.le_refl _)
 have hlk:=(look_S hF.map (keys_forms _) kind).1
 have hb:H'.get 0=.cells (Pos.Ev.row ⟨num,kind,names,vals,text⟩) 70:=by rw [hk 0 (by show 0 < 1;decide),Heap.get_push];exact if_pos rfl
 have hn1:(Heap.empty.push (.cells (Pos.Ev.row ⟨num,kind,names,vals,text⟩) 70)).n=1:=rfl
 rw [hn1] at hr hn' hlk
 have hn2:H'.n=18:=hn'
 simp only [Pos.Ev.row] at hr hb
 simp only at hn hv
 have hlen:∀ a b:Nat,((a:Int)=(b:Int))=(a=b):=fun a b=>by simp only [eq_iff_iff];omega
 have hspec:=chk_eq ⟨num,kind,names,vals,text⟩
 unfold chkA chkB at hspec
 simp only at hspec
 rcases lk_form kind 1 with ⟨hf,hl⟩ | ⟨a,b,nm,f1,l1,f2,l2,hf,hl,rfl⟩
 · rw [hl] at hlk
   simp only [hf,Option.isNone_none] at hspec
   rw [hspec]
   have hz:firstI [withinI num 1 1000,whenI true 13,0] ≠ 0:=by
    unfold firstI
    split
    · decide
    · assumption
   have hz':∀ x,firstI [withinI num 1 1000,whenI true 13,x]=firstI [withinI num 1 1000,whenI true 13,0]:=fun x=>by
    unfold firstI
    split
    · rfl
    · rfl
   rw [if_neg hz]
   rcases Classical.propComplete ((names.length:Int)=0) with c1 | c1<;>rcases Classical.propComplete ((vals.length:Int)=0) with c2 | c2
   all_goals
    simp (config:={ maxDischargeDepth:=12 }) only [go_sem,reduceIte,reduceEqDiff,reduceAdd,reduceMul,reduceSub,reduceLeDiff,reduceLT,Nat.reduceBEq,reduceCtorEq,en70 (P:=PPF45) rfl,Pos.Ev.row,hr,hb,hlk,hn2,strs_len,ints_len,hlen,hn,hv,hz',hz,c1,c2]
 · rw [hl] at hlk
   simp only [hf,Option.isNone_some] at hspec
   obtain ⟨G,hG⟩:∃ G,firstI [withinI num 1 1000,whenI false 13,whenI (decide (names.length ≠ nm.length) || decide (vals.length ≠ b)) 2]=G:=⟨_,rfl⟩
   rw [hG] at hspec
   rcases Classical.propComplete (names.length=nm.length) with c1 | c1<;>rcases Classical.propComplete (vals.length=b) with c2 | c2
   all_goals
    simp only [c1,c2,ne_eq,not_true_eq_false,not_false_eq_true,decide_true,decide_false,Bool.or_true,Bool.true_or,Bool.or_false] at hG
    by_cases h0:G=0
    · rw [if_pos h0] at hspec
      rw [hspec]
      subst h0
      simp (config:={ maxDischargeDepth:=12 }) only [go_sem,reduceIte,reduceEqDiff,reduceAdd,reduceMul,reduceSub,reduceLeDiff,reduceLT,Nat.reduceBEq,reduceCtorEq,en70 (P:=PPF45) rfl,Pos.Ev.row,hr,hb,hlk,hn2,strs_len,ints_len,List.length_map,hlen,hn,hv,hG,c1,c2,beqL_dec]
    · rw [if_neg h0] at hspec
      rw [hspec]
      simp (config:={ maxDischargeDepth:=12 }) only [go_sem,reduceIte,reduceEqDiff,reduceAdd,reduceMul,reduceSub,reduceLeDiff,reduceLT,Nat.reduceBEq,reduceCtorEq,en70 (P:=PPF45) rfl,Pos.Ev.row,hr,hb,hlk,hn2,strs_len,ints_len,List.length_map,hlen,hn,hv,hG,h0,c1,c2]
noncomputable def p45:List AV→Option AV:=primOf (α:=(Ev)) (fun x=>[.agg x.row]) (fun x=>x.names.length≤maxRows∧x.vals.length≤maxRows) (fun x=>i64 (Pos.chkE nameB x))
theorem pok45:∀ args v,p45 args=some v → ∀ lo H,CallOk NC lo 45 args H v H:=by
 intro args v h
 obtain ⟨x,rfl,hp,rfl⟩:=primOf_inv h
 exact c45 x hp
theorem pe45 (e:Ev) (hp:e.names.length≤maxRows∧e.vals.length≤maxRows):p45 [.agg e.row]=some (.int .i64 (Pos.chkE nameB e)):=primOf_enc (by intro x y h;(simp only [List.cons.injEq,AV.agg.injEq,AV.str.injEq,AV.int.injEq,AV.ps.injEq,AV.bool.injEq,Pos.Ev.row_inj,true_and,and_true] at h;first | simpa only [Prod.ext_iff] using h | simpa only [Prod.ext_iff,and_assoc] using h)) e hp
attribute [go_sem] pe45
end Go.Sim

namespace Go.Sim
open Go Go.Proofs
open Go.Sim.Pos (Nm Trk Flt Trn Pos Mch Reg Ev Len flat_len flat_take flat_drop)
set_option maxRecDepth 100000
set_option maxHeartbeats 4000000
section
variable {C:Cfg} {rec:Rec} {fid lo:Nat} {T:TT AV} {H:Heap} {K:AV→Heap→Prop} {d:Option Tmp} {t:TypeId} {p:String} {af:Array Edge} {gd:Option (Nat × Bool)}
theorem op_makeSlice (t':TypeId) (l c:Operand) :
 VO (aop C rec fid lo ⟨d,.makeSlice t' l c,t,p,af,gd⟩ T H) K=AO (evalO C T l) fun x=>AO (evalO C T c) fun y=>VO (amakeSlice C.P H t' x y) K:=by
 simp only [aop]
 cases evalO C T l with
 | none=>rfl
 | some x=>cases evalO C T c<;>rfl
theorem op_copy (a b:Operand) (ts tx:TypeId) :
 VO (aop C rec fid lo ⟨d,.call ⟨.builtin .copy,#[a,b],#[ts,tx]⟩,t,p,af,gd⟩ T H) K=AO (evalO C T a) fun x=>AO (evalO C T b) fun y=>VO (acopy C.P lo H ts x y) K:=by
 simp only [aop,acall,evalOs]
 cases evalO C T a with
 | none=>rfl
 | some x=>cases evalO C T b<;>rfl
end
attribute [go_sem ↓] op_makeSlice op_copy
theorem mk_one {H:Heap} {t e:TypeId} {z:AV} {sz b N:Nat} (hel:elemOf NC.P t=some e) (hsz:szOf NC.P e=some sz) (hby:bytesOf NC.P e=some b) (hz:zeroOf NC.P e=some z) (hzl:z.cells.length=sz) (hb:b≤131072) (h0:0 < sz) (h:N≤maxRows) :
 amakeSlice NC.P H t (.int .i64 (N:Nat)) (.int .i64 (N:Nat))=some (.rs H.n 0 N sz (some N),H.push (.cells (List.replicate N z.cells).flatten e)):=by
 have h1:b * N≤140737488355328:=Nat.le_trans (Nat.mul_le_mul hb h) (by unfold maxRows;decide)
 unfold amakeSlice
 have e1:∀ x:Nat,(AV.int .i64 (x:Int))=AV.int .i64 (.ofNat x):=fun _=>rfl
 simp only [hel,hsz,hby,hz,e1,Nat.le_refl,h1,h,h0,hzl,decide_true,Bool.and_self,if_true]
theorem mk_more {H:Heap} {t e:TypeId} {z:AV} {sz b N M:Nat} (hel:elemOf NC.P t=some e) (hsz:szOf NC.P e=some sz) (hby:bytesOf NC.P e=some b) (hz:zeroOf NC.P e=some z) (hzl:z.cells.length=sz) (hb:b≤131072) (h0:0 < sz) (h:M≤maxRows) (hNM:N < M) :
 amakeSlice NC.P H t (.int .i64 (N:Nat)) (.int .i64 (M:Nat))=some (.rs H.n 0 N sz none,H.push (.row (List.replicate M z.cells).flatten sz e)):=by
 have h1:b * M≤140737488355328:=Nat.le_trans (Nat.mul_le_mul hb h) (by unfold maxRows;decide)
 have h2:N≤M:=Nat.le_of_lt hNM
 have h3:¬ N=M:=by omega
 unfold amakeSlice
 have e1:∀ x:Nat,(AV.int .i64 (x:Int))=AV.int .i64 (.ofNat x):=fun _=>rfl
 simp only [hel,hsz,hby,hz,e1,h2,h1,h,h0,hzl,h3,decide_true,Bool.and_self,if_true,if_false]
theorem over_all {cs vs:List AV} (h:cs.length=vs.length):over cs 0 vs=vs:=by
 unfold over
 rw [List.take_zero,List.nil_append,Nat.zero_add,List.drop_of_length_le (by omega),List.append_nil]
theorem len_all {sz:Nat} {rows:List (List AV)} (h:Len sz rows):rows.all (fun r=>decide (r.length=sz))=true:=by
 rw [List.all_eq_true];intro r hr;simp [h r hr]
theorem cp_all {lo:Nat} {H:Heap} {t e e':TypeId} {sz id N:Nat} {cap:Option Nat} {tok:Tok} {rows:List (List AV)} {cs:List AV} (hel:elemOf NC.P t=some e) (hsz:szOf NC.P e=some sz) (hg:H.get id=.cells cs e') (hc:cs.length=N * sz) (hN:rows.length=N) (hr:Len sz rows) (ho:rows.flatten.all AV.one=true) (hlo:lo≤id) :
 acopy NC.P lo H t (.rs id 0 N sz cap) (.ps tok rows)=some (.int .i64 (N:Nat),H.set id (.cells rows.flatten e')):=by
 have hf:=flat_len hr
 have hle:0+rows.flatten.length≤cs.length:=by rw [hf,hN,hc];omega
 have hov:=over_all (cs:=cs) (vs:=rows.flatten) (by rw [hf,hN,hc])
 unfold acopy
 simp only [hel,hsz,rowsIn,len_all hr,if_true,hlo,decide_true,hN,Nat.le_refl,ho,Bool.and_self,hg,setBlk,hle,hov]
theorem cp_row {lo:Nat} {H:Heap} {t e e':TypeId} {sz id N:Nat} {cap:Option Nat} {tok:Tok} {rows:List (List AV)} {cs:List AV} (hel:elemOf NC.P t=some e) (hsz:szOf NC.P e=some sz) (hg:H.get id=.row cs sz e') (hc:N * sz≤cs.length) (hN:rows.length=N) (hr:Len sz rows) (ho:rows.flatten.all AV.one=true) (hlo:lo≤id) :
 acopy NC.P lo H t (.rs id 0 N sz cap) (.ps tok rows)=some (.int .i64 (N:Nat),H.set id (.row (rows.flatten++cs.drop (N * sz)) sz e')):=by
 have hf:=flat_len hr
 have hle:0+rows.flatten.length≤cs.length:=by rw [hf,hN];omega
 have hov:over cs 0 rows.flatten=rows.flatten++cs.drop (N * sz):=by
  unfold over
  rw [List.take_zero,List.nil_append,Nat.zero_add,hf,hN]
 unfold acopy
 simp only [hel,hsz,rowsIn,len_all hr,if_true,hlo,decide_true,hN,Nat.le_refl,ho,Bool.and_self,hg,setBlk,hle,hov]
theorem chunks_all {sz:Nat}:∀ {rows:List (List AV)} (cs:List AV),Len sz rows→chunks sz rows.length (rows.flatten++cs)=some rows
 | [],_,_=>rfl
 | r::l,cs,h=>by
   have hr:=h r (by simp)
   have ih:=chunks_all (rows:=l) cs fun x hx=>h x (by simp [hx])
   rw [List.length_cons,List.flatten_cons,List.append_assoc]
   unfold chunks
   rw [if_pos (by rw [List.length_append];omega),List.drop_left' hr,ih,List.take_left' hr]
theorem frz_rs {lo:Nat} {H:Heap} {id sz:Nat} {cap:Option Nat} {rows:List (List AV)} {cs:List AV} {b:ABlk} (hb:b=H.get id) (hc:blkCells b=some (rows.flatten++cs)) (hr:Len sz rows) (hp:rows.all pureRow=true) (hs:rows.map (List.map AV.strip0)=rows) (hlo:lo≤id) :
 afreeze lo H (.rs id 0 rows.length sz cap)=some (.ps .unk rows,H.set id .dead):=by
 have hf:=flat_len hr
 have hrd:readCells H (.ptr id 0) (rows.length * sz)=some rows.flatten:=by
  unfold readCells
  simp only
  rw [← hb,hc]
  unfold sub?
  simp only
  rw [if_pos (by rw [List.length_append,hf];omega),List.drop_zero,← hf,List.take_left' rfl]
 have hch:chunks sz rows.length rows.flatten=some rows:=by
  have:=chunks_all (rows:=rows) [] hr
  rwa [List.append_nil] at this
 unfold afreeze
 simp only [hlo,decide_true,if_true,hrd,hch,hp,hs]
theorem strs_Len (l:List Nm):Len 1 (strs l):=fun r hr=>by
 obtain ⟨x,_,rfl⟩:=List.mem_map.1 hr;rfl
theorem ints_Len (l:List Int):Len 1 (ints l):=fun r hr=>by
 obtain ⟨x,_,rfl⟩:=List.mem_map.1 hr;rfl
theorem strs_pure (l:List Nm):(strs l).all pureRow=true:=by
 rw [List.all_eq_true];intro r hr
 obtain ⟨x,_,rfl⟩:=List.mem_map.1 hr;rfl
theorem ints_pure (l:List Int):(ints l).all pureRow=true:=by
 rw [List.all_eq_true];intro r hr
 obtain ⟨x,_,rfl⟩:=List.mem_map.1 hr;rfl
theorem strs_strip (l:List Nm):(strs l).map (List.map AV.strip0)=strs l:=by
 unfold strs;rw [List.map_map];rfl
theorem ints_strip (l:List Int):(ints l).map (List.map AV.strip0)=ints l:=by
 unfold ints;rw [List.map_map];rfl
theorem strs_one (l:List Nm):(strs l).flatten.all AV.one=true:=by
 rw [List.all_eq_true];intro x hx
 obtain ⟨r,hr,hx⟩:=List.mem_flatten.1 hx
 obtain ⟨y,_,rfl⟩:=List.mem_map.1 hr
 rw [List.mem_singleton.1 hx];rfl
theorem ints_one (l:List Int):(ints l).flatten.all AV.one=true:=by
 rw [List.all_eq_true];intro x hx
 obtain ⟨r,hr,hx⟩:=List.mem_flatten.1 hx
 obtain ⟨y,_,rfl⟩:=List.mem_map.1 hr
 rw [List.mem_singleton.1 hx];rfl
end Go.Sim

namespace Go.Sim
open Go Go.Proofs
open Go.Sim.Pos (Nm Trk Flt Trn Pos Mch Reg Ev)
set_option maxRecDepth 100000
set_option maxHeartbeats 4000000
theorem mkS {H:Heap} {N:Nat} (h:N≤maxRows):amakeSlice NC.P H 51 (.int .i64 (N:Nat)) (.int .i64 (N:Nat))=some (.rs H.n 0 N 1 (some N),H.push (.cells (List.replicate N [AV.str []]).flatten 9)) :=
 mk_one (b:=16) (z:=.str []) (by kernel_rfl) (by kernel_rfl) (by kernel_rfl) (by kernel_rfl) rfl (by decide) (by decide) h
theorem mkI {H:Heap} {N:Nat} (h:N≤maxRows):amakeSlice NC.P H 28 (.int .i64 (N:Nat)) (.int .i64 (N:Nat))=some (.rs H.n 0 N 1 (some N),H.push (.cells (List.replicate N [AV.int .i64 0]).flatten 3)) :=
 mk_one (b:=8) (z:=.int .i64 0) (by kernel_rfl) (by kernel_rfl) (by kernel_rfl) (by kernel_rfl) rfl (by decide) (by decide) h
theorem rep_len (n:Nat) (v:AV):(List.replicate n [v]).flatten.length=n * 1:=by simp
theorem cpS {lo:Nat} {H:Heap} {id:Nat} {l:List Nm} {cap:Option Nat} (hg:H.get id=.cells (List.replicate l.length [AV.str []]).flatten 9) (hlo:lo≤id):acopy NC.P lo H 51 (.rs id 0 l.length 1 cap) (.ps .unk (strs l))=some (.int .i64 (l.length:Nat),H.set id (.cells (strs l).flatten 9)) :=
 cp_all (e:=9) (by kernel_rfl) (by kernel_rfl) hg (rep_len _ _) (strs_len l) (strs_Len l) (strs_one l) hlo
theorem cpI {lo:Nat} {H:Heap} {id:Nat} {l:List Int} {cap:Option Nat} (hg:H.get id=.cells (List.replicate l.length [AV.int .i64 0]).flatten 3) (hlo:lo≤id):acopy NC.P lo H 28 (.rs id 0 l.length 1 cap) (.ps .unk (ints l))=some (.int .i64 (l.length:Nat),H.set id (.cells (ints l).flatten 3)) :=
 cp_all (e:=3) (by kernel_rfl) (by kernel_rfl) hg (rep_len _ _) (ints_len l) (ints_Len l) (ints_one l) hlo
theorem frz_int (lo:Nat) (H:Heap) (k:IntKind) (n:Int):afreeze lo H (.int k n)=some (.int k n,H):=rfl
theorem frz_str (lo:Nat) (H:Heap) (s:List Nat):afreeze lo H (.str s)=some (.str s,H):=rfl
theorem frzS {lo id:Nat} {H:Heap} {cap:Option Nat} {l:List Nm} (hc:blkCells (H.get id)=some (strs l).flatten) (hlo:lo≤id):afreeze lo H (.rs id 0 l.length 1 cap)=some (.ps .unk (strs l),H.set id .dead):=by
 have:=frz_rs (lo:=lo) (H:=H) (id:=id) (cap:=cap) (cs:=[]) rfl (by rw [List.append_nil];exact hc) (strs_Len l) (strs_pure l) (strs_strip l) hlo
 rwa [strs_len] at this
theorem frzI {lo id:Nat} {H:Heap} {cap:Option Nat} {l:List Int} (hc:blkCells (H.get id)=some (ints l).flatten) (hlo:lo≤id):afreeze lo H (.rs id 0 l.length 1 cap)=some (.ps .unk (ints l),H.set id .dead):=by
 have:=frz_rs (lo:=lo) (H:=H) (id:=id) (cap:=cap) (cs:=[]) rfl (by rw [List.append_nil];exact hc) (ints_Len l) (ints_pure l) (ints_strip l) hlo
 rwa [ints_len] at this
noncomputable def PPF81:FuncId→Option (List AV→Option AV):=fun _=>none
theorem primsF81:PrimsOk NC PPF81:=primsOk_none
theorem c81 (e:Ev) (hp:e.names.length≤maxRows∧e.vals.length≤maxRows):∀ lo H,CallOk NC lo 81 [.agg e.row] H (.agg e.row) H:=by
 refine contract_frz saneNC primsF81 (fn:=Tryz.f81) (by kernel_rfl) Tryz.func81 rfl rfl (by rfl) (by first | rfl | (split<;>first | rfl | (split<;>rfl))) ?_
 obtain ⟨hn,hv⟩:=hp
 obtain ⟨num,kind,names,vals,text⟩:=e
 simp only at hn hv
 have m1:=fun (H:Heap)=>mkS (H:=H) hn
 have m2:=fun (H:Heap)=>mkI (H:=H) hv
 have c1:∀ {H:Heap},H.get 2=.cells (List.replicate names.length [AV.str []]).flatten 9→acopy NC.P 0 H 51 (.rs 2 0 names.length 1 (some names.length)) (.ps .unk (strs names))=some (.int .i64 (names.length:Nat),H.set 2 (.cells (strs names).flatten 9)):=fun hg=>cpS hg (Nat.zero_le _)
 have c2:∀ {H:Heap},H.get 3=.cells (List.replicate vals.length [AV.int .i64 0]).flatten 3→acopy NC.P 0 H 28 (.rs 3 0 vals.length 1 (some vals.length)) (.ps .unk (ints vals))=some (.int .i64 (vals.length:Nat),H.set 3 (.cells (ints vals).flatten 3)):=fun hg=>cpI hg (Nat.zero_le _)
 simp (config:={ maxDischargeDepth:=12 }) only [go_sem,reduceIte,reduceEqDiff,reduceAdd,reduceMul,reduceSub,reduceLeDiff,reduceLT,Nat.reduceBEq,reduceCtorEq,Pos.Ev.row,strs_len,ints_len,m1,m2,c1,c2]
 simp (config:={ maxDischargeDepth:=12 }) only [go_sem,reduceIte,reduceEqDiff,reduceAdd,reduceMul,reduceSub,reduceLeDiff,reduceLT,Nat.reduceBEq,reduceCtorEq,frzV,frzA,frzL,frz_int,frz_str,frzS,frzI]
 exact ⟨_,_,rfl,rfl⟩
noncomputable def p81:List AV→Option AV:=primOf (α:=(Ev)) (fun x=>[.agg x.row]) (fun x=>x.names.length≤maxRows∧x.vals.length≤maxRows) (fun x=>.agg x.row)
theorem pok81:∀ args v,p81 args=some v → ∀ lo H,CallOk NC lo 81 args H v H:=by
 intro args v h
 obtain ⟨x,rfl,hp,rfl⟩:=primOf_inv h
 exact c81 x hp
theorem pe81 (e:Ev) (hp:e.names.length≤maxRows∧e.vals.length≤maxRows):p81 [.agg e.row]=some (.agg e.row):=primOf_enc (by intro x y h;(simp only [List.cons.injEq,AV.agg.injEq,AV.str.injEq,AV.int.injEq,AV.ps.injEq,AV.bool.injEq,Pos.Ev.row_inj,true_and,and_true] at h;first | simpa only [Prod.ext_iff] using h | simpa only [Prod.ext_iff,and_assoc] using h)) e hp
attribute [go_sem] pe81
def Pos.spanI (a b:Int):Int:=whenI (!decide (a < b) || decide (100000000 < b)) 14
noncomputable def PPF100:FuncId→Option (List AV→Option AV):=addPrim 41 p41 (fun _=>none)
theorem primsF100:PrimsOk NC PPF100:=primsOk_add (primsOk_none) (by kernel_rfl) (by kernel_rfl) pok41
theorem enF100_41:En PPF100 41 p41:=enter_prim (by rfl) (by kernel_rfl)
attribute [go_sem ↓] enF100_41
theorem c100 (e:Ev) (hp:3≤e.vals.length):∀ lo H,CallOk NC lo 100 [.agg e.row] H (.tup [.agg [i64 (e.vals.getD 1 0),i64 (e.vals.getD 2 0)],i64 (Pos.spanI (e.vals.getD 1 0) (e.vals.getD 2 0))]) H:=by
 refine contract saneNC primsF100 (fn:=Tryz.f100) (by kernel_rfl) Tryz.func100 rfl rfl (by rfl) (by first | rfl | (split<;>first | rfl | (split<;>rfl))) ?_
 obtain ⟨num,kind,names,vals,text⟩:=e
 match vals,hp with
 | tk::a::b::r,_ =>
   have e1:(ints (tk::a::b::r))[1]? = some [.int .i64 a]:=rfl
   have e2:(ints (tk::a::b::r))[2]? = some [.int .i64 b]:=rfl
   have e3:(1 < (ints (tk::a::b::r)).length)=True:=by simp [ints]
   have e4:(2 < (ints (tk::a::b::r)).length)=True:=by simp [ints]
   have e5:natOf (ints (tk::a::b::r)).length (.int .i64 2)=some 2:=by
    have:natOf (ints (tk::a::b::r)).length (.int .i64 2)=if 2 < (ints (tk::a::b::r)).length then some 2 else none:=rfl
    rw [this,if_pos (of_eq_true e4)]
   by_cases h1:a < b<;>by_cases h2:100000000 < b
   all_goals
    simp (config:={ maxDischargeDepth:=12 }) only [go_sem,reduceIte,reduceEqDiff,reduceAdd,reduceMul,reduceSub,reduceLeDiff,reduceLT,Nat.reduceBEq,reduceCtorEq,Pos.Ev.row,e1,e2,e3,e4,e5,h1,h2]
    simp [Pos.spanI,h1,h2]
noncomputable def p100:List AV→Option AV:=primOf (α:=(Ev)) (fun x=>[.agg x.row]) (fun x=>3≤x.vals.length) (fun x=>.tup [.agg [i64 (x.vals.getD 1 0),i64 (x.vals.getD 2 0)],i64 (Pos.spanI (x.vals.getD 1 0) (x.vals.getD 2 0))])
theorem pok100:∀ args v,p100 args=some v → ∀ lo H,CallOk NC lo 100 args H v H:=by
 intro args v h
 obtain ⟨x,rfl,hp,rfl⟩:=primOf_inv h
 exact c100 x hp
theorem pe100 (e:Ev) (hp:3≤e.vals.length):p100 [.agg e.row]=some (.tup [.agg [.int .i64 (e.vals.getD 1 0),.int .i64 (e.vals.getD 2 0)],.int .i64 (Pos.spanI (e.vals.getD 1 0) (e.vals.getD 2 0))]):=primOf_enc (by intro x y h;(simp only [List.cons.injEq,AV.agg.injEq,AV.str.injEq,AV.int.injEq,AV.ps.injEq,AV.bool.injEq,Pos.Ev.row_inj,true_and,and_true] at h;first | simpa only [Prod.ext_iff] using h | simpa only [Prod.ext_iff,and_assoc] using h)) e hp
attribute [go_sem] pe100
end Go.Sim

namespace Go.Sim
open Go Go.Proofs
open Go.Sim.Pos (Nm Trk Flt Trn Pos Mch Reg Ev Len flat_len flat_take flat_drop flat_at)
set_option maxRecDepth 100000
set_option maxHeartbeats 4000000
noncomputable def PPT:FuncId→Option (List AV→Option AV):=addPrim 100 p100 (addPrim 81 p81 (addPrim 45 p45 (addPrim 63 p63 (addPrim 83 p83 (addPrim 36 p36 (addPrim 149 p149 (addPrim 92 p92 (addPrim 90 p90 (addPrim 88 p88 (addPrim 86 p86 (addPrim 85 p85 (addPrim 62 p62 (addPrim 40 p40 (addPrim 71 p71 (addPrim 41 p41 (fun _=>none))))))))))))))))
theorem primsT:PrimsOk NC PPT:=primsOk_add (primsOk_add (primsOk_add (primsOk_add (primsOk_add (primsOk_add (primsOk_add (primsOk_add (primsOk_add (primsOk_add (primsOk_add (primsOk_add (primsOk_add (primsOk_add (primsOk_add (primsOk_add (primsOk_none) (by kernel_rfl) (by kernel_rfl) pok41) (by kernel_rfl) (by kernel_rfl) pok71) (by kernel_rfl) (by kernel_rfl) pok40) (by kernel_rfl) (by kernel_rfl) pok62) (by kernel_rfl) (by kernel_rfl) pok85) (by kernel_rfl) (by kernel_rfl) pok86) (by kernel_rfl) (by kernel_rfl) pok88) (by kernel_rfl) (by kernel_rfl) pok90) (by kernel_rfl) (by kernel_rfl) pok92) (by kernel_rfl) (by kernel_rfl) pok149) (by kernel_rfl) (by kernel_rfl) pok36) (by kernel_rfl) (by kernel_rfl) pok83) (by kernel_rfl) (by kernel_rfl) pok63) (by kernel_rfl) (by kernel_rfl) pok45) (by kernel_rfl) (by kernel_rfl) pok81) (by kernel_rfl) (by kernel_rfl) pok100
theorem enT_41:En PPT 41 p41:=enter_prim (by rfl) (by kernel_rfl)
theorem enT_71:En PPT 71 p71:=enter_prim (by rfl) (by kernel_rfl)
theorem enT_40:En PPT 40 p40:=enter_prim (by rfl) (by kernel_rfl)
theorem enT_62:En PPT 62 p62:=enter_prim (by rfl) (by kernel_rfl)
theorem enT_85:En PPT 85 p85:=enter_prim (by rfl) (by kernel_rfl)
theorem enT_86:En PPT 86 p86:=enter_prim (by rfl) (by kernel_rfl)
theorem enT_88:En PPT 88 p88:=enter_prim (by rfl) (by kernel_rfl)
theorem enT_90:En PPT 90 p90:=enter_prim (by rfl) (by kernel_rfl)
theorem enT_92:En PPT 92 p92:=enter_prim (by rfl) (by kernel_rfl)
theorem enT_149:En PPT 149 p149:=enter_prim (by rfl) (by kernel_rfl)
theorem enT_83:En PPT 83 p83:=enter_prim (by rfl) (by kernel_rfl)
theorem enT_63:En PPT 63 p63:=enter_prim (by rfl) (by kernel_rfl)
theorem enT_45:En PPT 45 p45:=enter_prim (by rfl) (by kernel_rfl)
theorem enT_81:En PPT 81 p81:=enter_prim (by rfl) (by kernel_rfl)
theorem enT_100:En PPT 100 p100:=enter_prim (by rfl) (by kernel_rfl)
attribute [go_sem ↓] enT_41 enT_71 enT_40 enT_62 enT_85 enT_86 enT_88 enT_90 enT_92 enT_149 enT_83
attribute [go_sem ↓] enT_63 enT_45 enT_81 enT_100
noncomputable abbrev PT:Cfg:=NC.withPrims PPT
theorem old_refl (H:Heap):Old H.n H H=True:=eq_true (Old.refl H)
theorem old_push {b:Nat} {H H':Heap} (h:Old b H H') (x:ABlk):Old b H (H'.push x)=True:=eq_true (h.push x)
theorem old_set {b:Nat} {H H':Heap} (h:Old b H H') {j:Nat} (hj:b≤j) (x:ABlk):Old b H (H'.set j x)=True:=eq_true (h.set hj x)
theorem le_1 (a:Nat):(a≤a+1)=True:=eq_true (by omega)
theorem le_2 (a:Nat):(a≤a+1+1)=True:=eq_true (by omega)
theorem le_3 (a:Nat):(a≤a+1+1+1)=True:=eq_true (by omega)
theorem le_4 (a:Nat):(a≤a+1+1+1+1)=True:=eq_true (by omega)
theorem le_5 (a:Nat):(a≤a+1+1+1+1+1)=True:=eq_true (by omega)
attribute [go_sem] old_refl old_push old_set le_1 le_2 le_3 le_4 le_5
theorem Old.to {H H1 H2:Heap} (h:Old H.n H H1) (h2:Old H1.n H1 H2):Old H.n H H2:=⟨Nat.le_trans h.1 h2.1,fun i hi=>(h2.2 i (Nat.lt_of_lt_of_le hi h.1)).trans (h.2 i hi)⟩
def strp (v:AV):AV:=v.strip
noncomputable def slen (H:Heap) (t:TypeId) (v:AV):Option AV:=alen NC.P H t v
noncomputable def sidx (t:TypeId) (v i:AV):Option AV:=aindexAddr NC.P t v i
noncomputable def sld (H:Heap) (t:TypeId) (a:AV):Option AV:=aload NC.P H t a
section
variable {rec:Rec} {fid lo:Nat} {T:TT AV} {H:Heap} {K:AV→Heap→Prop} {d:Option Tmp} {t:TypeId} {p:String} {af:Array Edge} {gd:Option (Nat × Bool)}
theorem op_lenS (x:Operand) (t':TypeId):VO (aop PT rec fid lo ⟨d,.call ⟨.builtin .len,#[x],#[t']⟩,t,p,af,gd⟩ T H) K=AO (evalO PT T x) fun a=>AO (slen H t' a) fun v=>K v H:=op_len x t'
theorem op_idxS (t':TypeId) (x i:Operand):VO (aop PT rec fid lo ⟨d,.indexAddr t' x i,t,p,af,gd⟩ T H) K=AO (evalO PT T x) fun x=>AO (evalO PT T i) fun i=>AO (sidx t' x i) fun v=>K v H:=op_indexAddr t' x i
theorem op_ldS (t':TypeId) (x:Operand):VO (aop PT rec fid lo ⟨d,.load t' x,t,p,af,gd⟩ T H) K=AO (evalO PT T x) fun a=>AO (sld H t' a) fun v=>K v H:=op_load t' x
theorem op_callFS (f:FuncId) (xs:Array Operand) (ts:Array TypeId):VO (aop PT rec fid lo ⟨d,.call ⟨.value (.func f),xs,ts⟩,t,p,af,gd⟩ T H) K=AO (evalOs PT T xs.toList) fun l=>VO (aenter PT rec lo f (l.map strp) H) K:=op_callF f xs ts
theorem fnO_fnS (f:FuncId) (first caps l:List AV):fnO PT rec lo (.fn f first caps) l H K=VO (aenter PT rec lo f ((first++l++caps).map strp) H) K:=rfl
end
attribute [go_sem ↓ 2000] op_lenS op_idxS op_ldS op_callFS fnO_fnS
theorem strp_ps (a:Tok) (b:List (List AV)):strp (.ps a b)=.ps .unk b:=rfl
theorem strp_bool (b:Bool):strp (.bool b)=.bool b:=rfl
theorem strp_int (k:IntKind) (n:Int):strp (.int k n)=.int k n:=rfl
theorem strp_str (s:List Nat):strp (.str s)=.str s:=rfl
theorem strp_nilp:strp .nilp=.nilp:=rfl
theorem strp_ptr (a b:Nat):strp (.ptr a b)=.ptr a b:=rfl
theorem strp_pptr (a:List AV):strp (.pptr a)=.pptr a:=rfl
theorem strp_rs (a b c d:Nat) (e:Option Nat):strp (.rs a b c d e)=.rs a b c d e:=rfl
theorem strp_nilm:strp .nilm=.nilm:=rfl
theorem strp_map (a:Nat):strp (.map a)=.map a:=rfl
theorem strp_fn (f:FuncId) (a b:List AV):strp (.fn f a b)=.fn f a b:=rfl
theorem strp_yld (a:Nat):strp (.yld a)=.yld a:=rfl
theorem strp_nilf:strp .nilf=.nilf:=rfl
theorem strp_agg (a:List AV):strp (.agg a)=.agg (a.map AV.strip0):=rfl
attribute [go_sem] strp_ps strp_bool strp_int strp_str strp_nilp strp_ptr strp_pptr strp_rs strp_nilm strp_map strp_fn strp_yld strp_nilf strp_agg
theorem slen_ps (H:Heap) (t:TypeId) (a:Tok) (b:List (List AV)):slen H t (.ps a b)=alen NC.P H t (.ps a b):=rfl
theorem slen_rs (H:Heap) (t:TypeId) (a b c d:Nat) (e:Option Nat):slen H t (.rs a b c d e)=alen NC.P H t (.rs a b c d e):=rfl
theorem slen_str (H:Heap) (t:TypeId) (s:List Nat):slen H t (.str s)=alen NC.P H t (.str s):=rfl
theorem slen_map (H:Heap) (t:TypeId) (s:Nat):slen H t (.map s)=alen NC.P H t (.map s):=rfl
theorem slen_agg (H:Heap) (t:TypeId) (s:List AV):slen H t (.agg s)=alen NC.P H t (.agg s):=rfl
theorem sidx_ps (t:TypeId) (a:Tok) (b:List (List AV)) (i:AV):sidx t (.ps a b) i=aindexAddr NC.P t (.ps a b) i:=rfl
theorem sidx_rs (t:TypeId) (a b c d:Nat) (e:Option Nat) (i:AV):sidx t (.rs a b c d e) i=aindexAddr NC.P t (.rs a b c d e) i:=rfl
theorem sidx_ptr (t:TypeId) (a b:Nat) (i:AV):sidx t (.ptr a b) i=aindexAddr NC.P t (.ptr a b) i:=rfl
theorem sidx_pptr (t:TypeId) (a:List AV) (i:AV):sidx t (.pptr a) i=aindexAddr NC.P t (.pptr a) i:=rfl
theorem sld_ptr (H:Heap) (t:TypeId) (a b:Nat):sld H t (.ptr a b)=aload NC.P H t (.ptr a b):=rfl
theorem sld_pptr (H:Heap) (t:TypeId) (a:List AV):sld H t (.pptr a)=aload NC.P H t (.pptr a):=rfl
attribute [go_sem 100] slen_ps slen_rs slen_str slen_map slen_agg sidx_ps sidx_rs sidx_ptr sidx_pptr sld_ptr sld_pptr
theorem lt_1 {a b:Nat} (h:a < b):(a < b+1)=True:=eq_true (by omega)
attribute [go_sem] lt_1
theorem enter_p {f lo:Nat} {args:List AV} {H:Heap} {v v':AV} {K:AV→Heap→Prop} (hen:VO (aenter PT (R PT) lo f args H) K=AO (R PT (.call H.n f args H)) fun o=>o.val.strip.pure=true∧K o.val.strip H) (hR:∃ H2,R PT (.call H.n f args H)=some (.ofVal v H2)) (hs:v.strip=v') (hp:v'.pure=true):VO (aenter PT (R PT) lo f args H) K=K v' H:=by
 obtain ⟨H2,h⟩:=hR
 rw [hen,h]
 show (v.strip.pure=true∧K v.strip H)=_
 rw [hs]
 simp only [hp,true_and]
theorem enter_f {f lo:Nat} {args:List AV} {H H2:Heap} {v:AV} {K:AV→Heap→Prop} (hen:VO (aenter PT (R PT) lo f args H) K=AO (R PT (.call lo f args H)) fun o=>K o.val o.s.H) (hR:R PT (.call lo f args H)=some (.ofVal v H2)):VO (aenter PT (R PT) lo f args H) K=K v H2:=by
 rw [hen,hR];rfl
theorem enter_n {f lo:Nat} {args:List AV} {H H2:Heap} {v:AV} {K:AV→Heap→Prop} (hen:VO (aenter PT (R PT) lo f args H) K=AO (R PT (.call H.n f args H)) fun o=>K o.val o.s.H) (hR:R PT (.call H.n f args H)=some (.ofVal v H2)):VO (aenter PT (R PT) lo f args H) K=K v H2:=by
 rw [hen,hR];rfl
def Sl (H:Heap) (v:AV) (sz:Nat) (te:TypeId) (rows:List (List AV)):Prop:=(∃ t,v=.ps t rows∧(AV.ps t rows).under H.n=true) ∨ ∃ id cs,v=.rs id 0 rows.length sz none∧id < H.n∧H.get id=.row (rows.flatten++cs) sz te
theorem ps_under {t:Tok} {rows:List (List AV)} {n m:Nat} (h:(AV.ps t rows).under n=true) (hn:n≤m):(AV.ps t rows).under m=true:=by
 cases t with
 | tok k =>
   simp only [AV.under,Nat.blt_eq] at h ⊢
   omega
 | _=>simp [AV.under]
theorem Sl.old {H H':Heap} {v:AV} {sz:Nat} {te:TypeId} {rows:List (List AV)} (h:Sl H v sz te rows) (ho:Old H.n H H'):Sl H' v sz te rows:=by
 rcases h with ⟨t,h1,h2⟩ | ⟨id,cs,h1,h2,h3⟩
 · exact .inl ⟨t,h1,ps_under h2 ho.1⟩
 · exact .inr ⟨id,cs,h1,Nat.lt_of_lt_of_le h2 ho.1,by rw [ho.2 id h2];exact h3⟩
theorem Sl.strip {H:Heap} {v:AV} {sz:Nat} {te:TypeId} {rows:List (List AV)} (h:Sl H v sz te rows):Sl H v.strip sz te rows:=by
 rcases h with ⟨t,rfl,_⟩ | ⟨id,cs,rfl,h⟩
 · exact .inl ⟨_,rfl,rfl⟩
 · exact .inr ⟨id,cs,rfl,h⟩
theorem Sl.under {H:Heap} {v:AV} {sz:Nat} {te:TypeId} {rows:List (List AV)} (h:Sl H v sz te rows) {n:Nat} (hn:H.n≤n):v.under n=true:=by
 rcases h with ⟨t,rfl,h1⟩ | ⟨id,cs,rfl,h1,_⟩
 · exact ps_under h1 hn
 · simp only [AV.under,Nat.blt_eq];omega
def elA (v:AV) (sz k:Nat):AV:=match v with
 | .ps _ rows=>.pptr (rows[k]?.getD [])
 | .rs id off _ _ _=>.ptr id (off+k * sz)
 | _=>.nilp
section
variable {H:Heap} {v:AV} {sz k:Nat} {te t:TypeId} {rows:List (List AV)}
theorem Sl.len (h:Sl H v sz te rows) (hu:NC.P.underlying t=some (.slice te)) (H':Heap):slen H' t v=some (.int .i64 (rows.length:Nat)):=by
 show alen NC.P H' t v=_
 unfold alen
 rcases h with ⟨t,rfl,_⟩ | ⟨id,cs,rfl,h⟩<;>simp only [hu]
theorem Sl.idx (h:Sl H v sz te rows) (hu:NC.P.underlying t=some (.slice te)) (hs:szOf NC.P te=some sz) (hr:Len sz rows) (hk:k < rows.length) (kk:IntKind):sidx t v (.int kk (k:Nat))=some (elA v sz k):=by
 obtain ⟨r,hx⟩:∃ r,rows[k]? = some r:=⟨rows[k],by simp⟩
 have hl:=hr r (List.mem_of_getElem? hx)
 show aindexAddr NC.P t v (.int kk (k:Nat))=_
 unfold aindexAddr
 have hn:natOf rows.length (.int kk (k:Nat))=some k:=by rw [natOf_cast,if_pos hk]
 rcases h with ⟨t,rfl,_⟩ | ⟨id,cs,rfl,h⟩
 · simp only [hu,hn,hx,hs,hl,if_true,elA]
   simp
 · simp only [hu,hn,hs,if_true,elA]
theorem Sl.ld {H':Heap} {r:List AV} (h:Sl H v sz te rows) (hs:szOf NC.P te=some sz) (hg:aggOf NC.P te=some true) (hr:Len sz rows) (hk:rows[k]? = some r) (ho:Old H.n H H'):sld H' te (elA v sz k)=some (.agg r):=by
 have hl:=hr r (List.mem_of_getElem? hk)
 show aload NC.P H' te (elA v sz k)=_
 unfold aload
 rcases h with ⟨t,rfl,_⟩ | ⟨id,cs,rfl,h1,h2⟩
 · simp only [hs,hg,elA,hk,Option.getD_some,readCells,sub?,if_true,loadV,Nat.zero_add,hl,Nat.le_refl,List.drop_zero]
   rw [← hl,List.take_length]
 · have hf:=flat_at hr hk
   have hs2:sub? (rows.flatten++cs) (k * sz) sz=some r:=by
    unfold sub? at hf ⊢
    split at hf
    · rename_i hle
      rw [if_pos (by rw [List.length_append];omega),List.drop_append_of_le_length (by omega),List.take_append_of_le_length (by rw [List.length_drop];omega)]
      exact hf
    · cases hf
   simp only [hs,hg,elA,readCells,ho.2 id h1,h2,blkCells,Nat.zero_add,if_true,hs2,loadV]
end
theorem rows_Len {α:Type} {f:α→List AV} {sz:Nat} (hf:∀ x,(f x).length=sz) (l:List α):Len sz (l.map f):=fun r hr=>by
 obtain ⟨x,_,rfl⟩:=List.mem_map.1 hr;exact hf x
theorem strs_take {α:Type} {u:α→Nm} {l:List α} {k:Nat} {x:α} (h:l[k]? = some x):strs ((l.take (k+1)).map u)=strs ((l.take k).map u)++[[.str (u x)]]:=by
 rw [take_map h];unfold strs;rw [List.map_append];rfl
end Go.Sim
